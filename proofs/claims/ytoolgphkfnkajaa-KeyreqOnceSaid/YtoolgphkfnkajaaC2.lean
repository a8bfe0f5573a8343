/-
  Chapter 23: who is answered, who asks: what still holds: no program in sight, no condition.
-/
import Derived.Test.YtoolgphkfnkajaaC1
namespace Go.Proofs.Ytoolgphkfnkajaa.X
open Go Go.RowKit
set_option linter.unusedVariables false
set_option linter.unusedSimpArgs false
theorem ixOf_one {x y : Int} : 0 ≤ ixOf [x] y ↔ y = x := by
  unfold ixOf
  by_cases h : y = x
  · subst h; simp
  · have : (x == y) = false := by simpa using fun e => h e.symm
    simp [List.findIdx?_cons, this, h]
theorem OnI.ansR {w : Int} {lr la : List Sr} {ask wan : List Int} {now t : Int} (h : OnI w lr la ask wan now t) (k : Int) (hk : k ≠ 0) : OnI w (ansA [k] lr) la ask wan now t := by
  have hg : getS (ansA [k] lr) 0 = getS lr 0 := by
    rw [getS_ans]
    unfold anU
    rw [if_neg]
    rintro ⟨_, h2⟩
    rw [getS_id] at h2
    exact hk (ixOf_one.1 h2).symm
  have hi : (ansA [k] lr).map Sr.id = lr.map Sr.id := by
    unfold ansA
    rw [List.map_map]
    exact List.map_congr_left fun s _ => anU_id [k] s
  refine ⟨by rw [hi]; exact h.so, h.sa, ?_, h.i1, by rw [hg]; exact h.e0, by rw [hg]; exact h.sn, by rw [hg]; exact h.al, h.gp, h.nn, by rw [hg]; exact h.ln, by rw [hg]; exact h.wt, by rw [hg]; exact h.wh, ?_, h.ba⟩
  · intro s hs
    obtain ⟨y, hy, rfl⟩ := List.mem_map.1 hs
    have := h.i3 y hy
    rwa [← anU_id [k] y] at this
  · intro s hs
    obtain ⟨y, hy, rfl⟩ := List.mem_map.1 hs
    have := h.bd y hy
    show (anU [k] y).sent ≤ t
    unfold anU ansS
    split <;> exact this
theorem OnI.ans0 {w : Int} {lr la : List Sr} {ask wan : List Int} {now t : Int} (h : OnI w lr la ask wan now t) : OnI w (ansA [0] lr) (ansA [0] la) ask [] now t := by
  have hg : ∀ l, getS (ansA [0] l) 0 = ⟨0, (getS l 0).last, (getS l 0).sent, if 0 < (getS l 0).wt then 0 else (getS l 0).wt⟩ := fun l => by
    rw [getS_ans]
    unfold anU ansS
    have hi := getS_id l 0
    by_cases hw : 0 < (getS l 0).wt
    · rw [if_pos ⟨hw, ixOf_one.2 hi⟩, if_pos hw, hi]
    · rw [if_neg (fun h => hw h.1), if_neg hw]
      generalize getS l 0 = s at *
      obtain ⟨a, b, c, d⟩ := s
      dsimp only at hi ⊢
      rw [hi]
  have hi : ∀ l, (ansA [0] l).map Sr.id = l.map Sr.id := fun l => by
    unfold ansA
    rw [List.map_map]
    exact List.map_congr_left fun s _ => anU_id [0] s
  refine ⟨by rw [hi]; exact h.so, by rw [hi]; exact h.sa, ?_, ?_, by rw [hg, hg, h.e0], by rw [hg]; exact h.sn, by rw [hg]; exact h.al, h.gp, h.nn, by rw [hg]; exact h.ln, ?_, (fun hw => absurd rfl hw), ?_, ?_⟩
  · intro s hs
    obtain ⟨y, hy, rfl⟩ := List.mem_map.1 hs
    have := h.i3 y hy
    rwa [← anU_id [0] y] at this
  · intro s hs
    obtain ⟨y, hy, rfl⟩ := List.mem_map.1 hs
    have := h.i1 y hy
    rwa [← anU_id [0] y] at this
  · rw [hg]
    refine ⟨fun h => absurd rfl h, fun h2 => ?_⟩
    dsimp only at h2
    split at h2 <;> omega
  · intro s hs
    obtain ⟨y, hy, rfl⟩ := List.mem_map.1 hs
    have := h.bd y hy
    show (anU [0] y).sent ≤ t
    unfold anU ansS
    split <;> exact this
  · intro s hs
    obtain ⟨y, hy, rfl⟩ := List.mem_map.1 hs
    have := h.ba y hy
    show (anU [0] y).sent ≤ t
    unfold anU ansS
    split <;> exact this
theorem ask_bd {w now t : Int} {l : List Sr} (id : Int) (h : ∀ s, s ∈ l → s.sent ≤ t) (ht : 0 ≤ t) : ∀ s, s ∈ askL w l id now → s.sent ≤ t + 1 := fun s hs => by
  rcases put_mem hs with rfl | hs
  · have : (getS l id).sent ≤ t := by
      cases hf : srF l id with
      | none => rw [getS_none hf]; exact ht
      | some y => rw [getS_some hf]; exact h y (srF_id hf).1
    unfold askS
    split <;> dsimp only <;> omega
  · have := h s hs; omega
theorem OnI.up {w : Int} {lr la : List Sr} {ask wan : List Int} {now t : Int} (h : OnI w lr la ask wan now t) : OnI w lr la ask wan now (t + 1) :=
  ⟨h.so, h.sa, h.i3, h.i1, h.e0, h.sn, h.al, h.gp, h.nn, h.ln, h.wt, h.wh, (fun s hs => by have := h.bd s hs; omega), (fun s hs => by have := h.ba s hs; omega)⟩
theorem OnI.askR {w : Int} {lr la : List Sr} {ask wan : List Int} {now t : Int} (h : OnI w lr la ask wan now t) (ht : 0 ≤ t) (k : Int) (hk : 0 < k ∧ k ≤ 2) : OnI w (askL w lr k now) la ask wan now (t + 1) := by
  have hg : getS (askL w lr k now) 0 = getS lr 0 := by rw [getS_ask h.so, if_neg (by omega)]
  refine ⟨put_sorted h.so, h.sa, ?_, h.i1, by rw [hg]; exact h.e0, by rw [hg]; exact h.sn, by rw [hg]; exact h.al, h.gp, h.nn, by rw [hg]; exact h.ln, by rw [hg]; exact h.wt, by rw [hg]; exact h.wh, ask_bd k h.bd ht, (fun s hs => by have := h.ba s hs; omega)⟩
  intro s hs
  rcases put_mem hs with rfl | hs
  · rw [askS_id, getS_id]; omega
  · exact h.i3 s hs
theorem OnI.ask0 {w : Int} {lr la : List Sr} {ask wan : List Int} {now t : Int} (h : OnI w lr la ask wan now t) (ht : 0 ≤ t) (hn : 0 ≤ now) (b : Bool) (hb : mayB w (getS lr 0) now = b) :
    OnI w (askL w lr 0 now) (askL w la 0 now) (if b = true then ask ++ [now] else ask) (if b = true then [] else wan ++ [now]) now (t + 1) := by
  have hg : getS (askL w lr 0 now) 0 = askS w now (getS lr 0) := by rw [getS_ask h.so, if_pos rfl]
  have hga : getS (askL w la 0 now) 0 = askS w now (getS lr 0) := by rw [getS_ask h.sa, if_pos rfl, h.e0]
  have hu : askS w now (getS lr 0) = if b = true then ⟨(getS lr 0).id, now, (getS lr 0).sent + 1, 0⟩ else ⟨(getS lr 0).id, (getS lr 0).last, (getS lr 0).sent, 1⟩ := by unfold askS; rw [hb]
  refine ⟨put_sorted h.so, put_sorted h.sa, ?_, ?_, by rw [hg, hga], ?_, ?_, ?_, ?_, ?_, ?_, ?_, ask_bd 0 h.bd ht, ask_bd 0 h.ba ht⟩
  · intro s hs
    rcases put_mem hs with rfl | hs
    · rw [askS_id, getS_id]; omega
    · exact h.i3 s hs
  · intro s hs
    rcases put_mem hs with rfl | hs
    · rw [askS_id, getS_id]
    · exact h.i1 s hs
  all_goals try rw [hg, hu]
  · cases b with
    | false => exact h.sn
    | true => simp only [if_true]; rw [List.length_append, List.length_singleton, h.sn]; rfl
  · cases b with
    | false => exact h.al
    | true =>
      simp only [if_true]
      rw [getD_snoc, List.length_append, List.length_singleton]
      intro _
      rw [if_pos (by omega)]
  · cases b with
    | false => exact h.gp
    | true => simp only [if_true]; exact gp_snoc h.gp (may_gap hb h.sn h.al)
  · intro x hx
    cases b with
    | false => exact h.nn x hx
    | true =>
      rcases List.mem_append.1 hx with h1 | h1
      · exact h.nn x h1
      · rw [List.mem_singleton.1 h1]; omega
  · have := h.ln
    cases b with
    | false => exact this
    | true => simp only [if_true]; omega
  · cases b with
    | false =>
      simp only [Bool.false_eq_true, if_false]
      exact ⟨fun _ => by decide, fun _ => by simp⟩
    | true =>
      simp only [if_true]
      exact ⟨fun h => absurd rfl h, fun h => by cases h⟩
  · cases b with
    | true => intro hw; exact absurd rfl hw
    | false =>
      intro _
      simp only [Bool.false_eq_true, if_false]
      have hl := h.ln
      cases hw : wan with
      | nil => exact ⟨hl.2, Int.le_refl _⟩
      | cons x r =>
        have := h.wh (by rw [hw]; simp)
        rw [hw] at this
        exact this
theorem nodup_le2 : ∀ {l m : List Int}, l.Nodup → (∀ x, x ∈ l → x ∈ m) → l.length ≤ m.length
  | [], m, _, _ => Nat.zero_le _
  | x :: r, m, hn, hs => by
    rw [List.nodup_cons] at hn
    have hx := hs x List.mem_cons_self
    have h1 := nodup_le2 (l := r) (m := m.erase x) hn.2 (fun y hy => (List.mem_erase_of_ne (fun e => hn.1 (by rw [← e]; exact hy))).2 (hs y (List.mem_cons_of_mem _ hy)))
    rw [List.length_erase_of_mem hx] at h1
    have := List.length_pos_of_mem hx
    rw [List.length_cons]; omega
/-- Few sources. -/
theorem OnI.len {w : Int} {lr la : List Sr} {ask wan : List Int} {now t : Int} (h : OnI w lr la ask wan now t) : lr.length ≤ 3 ∧ la.length ≤ 1 := by
  have nd : ∀ {l : List Sr}, (l.map Sr.id).Pairwise (· < ·) → (l.map Sr.id).Nodup := fun h => h.imp fun h => by omega
  have sub : ∀ {l m : List Int}, l.Nodup → (∀ x, x ∈ l → x ∈ m) → l.length ≤ m.length := fun {l m} hn hs => nodup_le2 hn hs
  have h1 := sub (m := [0, 1, 2]) (nd h.so) (fun x hx => by
    obtain ⟨s, hs, rfl⟩ := List.mem_map.1 hx
    have := h.i3 s hs
    have : s.id = 0 ∨ s.id = 1 ∨ s.id = 2 := by omega
    simpa using this)
  have h2 := sub (m := [0]) (nd h.sa) (fun x hx => by
    obtain ⟨s, hs, rfl⟩ := List.mem_map.1 hx
    simpa using h.i1 s hs)
  rw [List.length_map] at h1 h2
  exact ⟨h1, h2⟩
end Go.Proofs.Ytoolgphkfnkajaa.X
