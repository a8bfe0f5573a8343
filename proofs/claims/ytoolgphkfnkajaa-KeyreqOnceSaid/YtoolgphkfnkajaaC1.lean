/-
  Chapter 23: at most once in a window; served at the latest when it ends: no program in sight, no condition.
-/
import Derived.Test.YtoolgphkfnkajaaB2
namespace Go.Proofs.Ytoolgphkfnkajaa.X
open Go Go.RowKit
set_option linter.unusedVariables false
set_option linter.unusedSimpArgs false
theorem srF_map (u : Sr → Sr) (hu : ∀ s, (u s).id = s.id) (l : List Sr) (z : Int) : srF (l.map u) z = (srF l z).map u := by
  induction l with
  | nil => rfl
  | cons x r ih =>
    rw [List.map_cons, srF_cons, srF_cons, hu, ih]
    split <;> rfl
theorem srF_id {l : List Sr} {z : Int} {s : Sr} (h : srF l z = some s) : s ∈ l ∧ s.id = z := by
  unfold srF at h
  exact ⟨List.mem_of_find?_eq_some h, by simpa using List.find?_some h⟩
theorem getS_none {l : List Sr} {z : Int} (h : srF l z = none) : getS l z = ⟨z, 0, 0, 0⟩ := by unfold getS; rw [h]; rfl
theorem getS_some {l : List Sr} {z : Int} {s : Sr} (h : srF l z = some s) : getS l z = s := by unfold getS; rw [h]; rfl
def tkU (w now : Int) (s : Sr) : Sr := if dueS w now s = true then askS w now s else s
theorem tkU_id (w now : Int) (s : Sr) : (tkU w now s).id = s.id := by
  unfold tkU
  split
  · exact askS_id ..
  · rfl
theorem tickL_map (w : Int) (l : List Sr) (now : Int) : tickL w l now = l.map (tkU w now) := rfl
theorem dueS_none (w now z : Int) : dueS w now ⟨z, 0, 0, 0⟩ = false := rfl
theorem getS_tick (w : Int) (l : List Sr) (now z : Int) : getS (tickL w l now) z = tkU w now (getS l z) := by
  rw [tickL_map]
  cases h : srF l z with
  | none =>
    rw [getS_none h, getS_none (by rw [srF_map _ (tkU_id w now), h]; rfl)]
    unfold tkU
    rw [if_neg (by rw [dueS_none]; decide)]
  | some s => rw [getS_some h, getS_some (s := tkU w now s) (by rw [srF_map _ (tkU_id w now), h]; rfl)]
def anU (az : List Int) (s : Sr) : Sr := if 0 < s.wt ∧ 0 ≤ ixOf az s.id then ansS s else s
theorem anU_id (az : List Int) (s : Sr) : (anU az s).id = s.id := by unfold anU; split <;> rfl
theorem getS_ans (az : List Int) (l : List Sr) (z : Int) : getS (ansA az l) z = anU az (getS l z) := by
  show getS (l.map (anU az)) z = _
  cases h : srF l z with
  | none =>
    rw [getS_none h, getS_none (by rw [srF_map _ (anU_id az), h]; rfl)]
    rfl
  | some s => rw [getS_some h, getS_some (s := anU az s) (by rw [srF_map _ (anU_id az), h]; rfl)]
theorem getS_ask {w : Int} {l : List Sr} (hp : (l.map Sr.id).Pairwise (· < ·)) (id now z : Int) : getS (askL w l id now) z = if z = id then askS w now (getS l id) else getS l z := by
  have h : srF (askL w l id now) z = _ := srF_put (askS w now (getS l id)) l z hp
  rw [askS_id, getS_id] at h
  by_cases hz : z = id
  · rw [if_pos hz] at h ⊢; exact getS_some h
  · rw [if_neg hz] at h ⊢
    unfold getS
    rw [h]
theorem tick0 {w now : Int} {l : List Sr} (hp : (l.map Sr.id).Pairwise (· < ·)) : (0 ∈ tickO w l now) ↔ dueS w now (getS l 0) = true := by
  constructor
  · intro h
    obtain ⟨s, hs, hi, hd⟩ := tickO_mem h
    rw [← hi, getS_mem hp hs]; exact hd
  · intro h
    cases hs : srF l 0 with
    | none => rw [getS_none hs, dueS_none] at h; cases h
    | some s =>
      rw [getS_some hs] at h
      obtain ⟨hm, hi⟩ := srF_id hs
      exact List.mem_map.2 ⟨s, List.mem_filter.2 ⟨hm, h⟩, hi⟩
/-- The first of those is 0 if it is among them. -/
theorem head0 {ds : List Int} (hp : ds.Pairwise (· < ·)) (h0 : ∀ d, d ∈ ds → 0 ≤ d) : (0 < ds.length ∧ ds.getD 0 1 = 0) ↔ 0 ∈ ds := by
  cases ds with
  | nil => simp
  | cons x r =>
    constructor
    · rintro ⟨_, h⟩
      have : x = 0 := h
      subst this; exact List.mem_cons_self
    · intro h
      refine ⟨by simp, ?_⟩
      show x = 0
      rcases List.mem_cons.1 h with h | h
      · exact h.symm
      · have h1 := (List.pairwise_cons.1 hp).1 0 h
        have h2 := h0 x List.mem_cons_self
        omega
structure OnI (w : Int) (lr la : List Sr) (ask wan : List Int) (now t : Int) : Prop where
  so : (lr.map Sr.id).Pairwise (· < ·)
  sa : (la.map Sr.id).Pairwise (· < ·)
  i3 : ∀ s, s ∈ lr → 0 ≤ s.id ∧ s.id ≤ 2
  i1 : ∀ s, s ∈ la → s.id = 0
  e0 : getS la 0 = getS lr 0
  sn : (getS lr 0).sent = ask.length
  al : ask ≠ [] → (getS lr 0).last = ask.getD (ask.length - 1) 0
  gp : ∀ i, i + 1 < ask.length → w ≤ ask.getD (i + 1) 0 - ask.getD i 0
  nn : ∀ x, x ∈ ask → 0 ≤ x ∧ x ≤ now
  ln : 0 ≤ (getS lr 0).last ∧ (getS lr 0).last ≤ now
  wt : wan ≠ [] ↔ 0 < (getS lr 0).wt
  wh : wan ≠ [] → (getS lr 0).last ≤ wan.getD 0 0 ∧ wan.getD 0 0 ≤ now
  bd : ∀ s, s ∈ lr → s.sent ≤ t
  ba : ∀ s, s ∈ la → s.sent ≤ t
theorem OnI.new {w : Int} : OnI w [] [] [] [] 0 0 :=
  ⟨List.Pairwise.nil, List.Pairwise.nil, (fun s h => by cases h), (fun s h => by cases h), rfl, rfl, (fun h => absurd rfl h), (fun i h => by simp at h), (fun x h => by cases h), ⟨Int.le_refl 0, Int.le_refl 0⟩, ⟨fun h => absurd rfl h, fun h => by cases h⟩, (fun h => absurd rfl h), (fun s h => by cases h), (fun s h => by cases h)⟩
theorem getD_snoc {l : List Int} {x : Int} {i : Nat} : (l ++ [x]).getD i 0 = if i = l.length then x else l.getD i 0 := by
  rw [List.getD_eq_getElem?_getD, List.getD_eq_getElem?_getD]
  by_cases h : i = l.length
  · subst h; simp
  · rw [if_neg h]
    by_cases h2 : i < l.length
    · rw [List.getElem?_append_left h2]
    · rw [List.getElem?_eq_none (by simp; omega), List.getElem?_eq_none (by omega)]
theorem gp_snoc {w : Int} {ask : List Int} {x : Int} (h : ∀ i, i + 1 < ask.length → w ≤ ask.getD (i + 1) 0 - ask.getD i 0) (hx : ask ≠ [] → w ≤ x - ask.getD (ask.length - 1) 0) : ∀ i, i + 1 < (ask ++ [x]).length → w ≤ (ask ++ [x]).getD (i + 1) 0 - (ask ++ [x]).getD i 0 := fun i hi => by
  rw [List.length_append, List.length_singleton] at hi
  rw [getD_snoc, getD_snoc]
  by_cases h1 : i + 1 = ask.length
  · rw [if_pos h1, if_neg (by omega)]
    have h2 := hx (by rintro rfl; simp at h1)
    have h3 : ask.length - 1 = i := by omega
    rw [h3] at h2; exact h2
  · rw [if_neg h1, if_neg (by omega)]
    exact h i (by omega)
/-- The source is asked now: what then holds of all rows. -/
theorem may_gap {w now : Int} {s : Sr} {ask : List Int} (hm : mayB w s now = true) (sn : s.sent = ask.length) (al : ask ≠ [] → s.last = ask.getD (ask.length - 1) 0) : ask ≠ [] → w ≤ now - ask.getD (ask.length - 1) 0 := fun h => by
  have hl : 0 < ask.length := List.length_pos_iff.2 h
  rw [← al h]
  unfold mayB at hm
  simp only [Bool.or_eq_true, decide_eq_true_eq, Bool.and_eq_true] at hm
  omega
theorem tkU_sent {w now t : Int} {s : Sr} (h : s.sent ≤ t) : (tkU w now s).sent ≤ t + 1 := by
  unfold tkU askS
  split
  · split <;> dsimp only <;> omega
  · omega
theorem OnI.tick {w : Int} {lr la : List Sr} {ask wan : List Int} {now t : Int} (h : OnI w lr la ask wan now t) (hn : 0 ≤ now) (m : Bool) (hm : dueS w (now + 1) (getS lr 0) = m) :
    OnI w (tickL w lr (now + 1)) (tickL w la (now + 1)) (if m = true then ask ++ [now + 1] else ask) (if m = true then [] else wan) (now + 1) (t + 1) ∧ (m = false → wan ≠ [] → now + 1 - (getS lr 0).last < w) := by
  have hmw : 0 < (getS lr 0).wt → m = mayB w (getS lr 0) (now + 1) := fun h => by
    rw [← hm]; unfold dueS; rw [decide_eq_true h]; rfl
  refine ⟨⟨?_, ?_, ?_, ?_, ?_, ?_, ?_, ?_, ?_, ?_, ?_, ?_, ?_, ?_⟩, ?_⟩
  · rw [← tickL_step h.so, stepM_ids]; exact h.so
  · rw [← tickL_step h.sa, stepM_ids]; exact h.sa
  · intro s hs
    obtain ⟨y, hy, rfl⟩ := List.mem_map.1 hs
    have := h.i3 y hy
    rwa [← tkU_id w (now + 1) y] at this
  · intro s hs
    obtain ⟨y, hy, rfl⟩ := List.mem_map.1 hs
    have := h.i1 y hy
    rwa [← tkU_id w (now + 1) y] at this
  · rw [getS_tick, getS_tick, h.e0]
  all_goals try rw [getS_tick]
  all_goals try unfold tkU
  all_goals try rw [hm]
  · cases m with
    | false => exact h.sn
    | true =>
      have hmay : mayB w (getS lr 0) (now + 1) = true := by unfold dueS at hm; simp only [Bool.and_eq_true] at hm; exact hm.2
      simp only [if_true]
      unfold askS
      rw [if_pos hmay, List.length_append, List.length_singleton]
      dsimp only
      rw [h.sn]; rfl
  · cases m with
    | false => exact h.al
    | true =>
      have hmay : mayB w (getS lr 0) (now + 1) = true := by unfold dueS at hm; simp only [Bool.and_eq_true] at hm; exact hm.2
      simp only [if_true]
      unfold askS
      rw [if_pos hmay, getD_snoc, List.length_append, List.length_singleton]
      intro _
      rw [if_pos (by omega)]
  · cases m with
    | false => exact h.gp
    | true =>
      have hmay : mayB w (getS lr 0) (now + 1) = true := by unfold dueS at hm; simp only [Bool.and_eq_true] at hm; exact hm.2
      simp only [if_true]
      exact gp_snoc h.gp (may_gap hmay h.sn h.al)
  · intro x hx
    cases m with
    | false => have := h.nn x hx; omega
    | true =>
      rcases List.mem_append.1 hx with h1 | h1
      · have := h.nn x h1; omega
      · rw [List.mem_singleton.1 h1]; omega
  · have := h.ln
    cases m with
    | false => simp only [Bool.false_eq_true, if_false]; omega
    | true =>
      simp only [if_true]
      unfold askS
      split <;> dsimp only <;> omega
  · cases m with
    | false => exact h.wt
    | true =>
      have hmay : mayB w (getS lr 0) (now + 1) = true := by unfold dueS at hm; simp only [Bool.and_eq_true] at hm; exact hm.2
      simp only [if_true]
      unfold askS
      rw [if_pos hmay]
      exact ⟨fun h => absurd rfl h, fun h => by cases h⟩
  · cases m with
    | false => intro hw; have := h.wh hw; simp only [Bool.false_eq_true, if_false]; omega
    | true => intro hw; exact absurd rfl hw
  · intro s hs
    obtain ⟨y, hy, rfl⟩ := List.mem_map.1 hs
    exact tkU_sent (h.bd y hy)
  · intro s hs
    obtain ⟨y, hy, rfl⟩ := List.mem_map.1 hs
    exact tkU_sent (h.ba y hy)
  · intro hf hw
    have h1 := hmw (h.wt.1 hw)
    rw [hf] at h1
    unfold mayB at h1
    have h2 := h.ln
    have h3 := h1.symm
    simp only [Bool.or_eq_false_iff, decide_eq_false_iff_not, Bool.and_eq_false_iff] at h3
    omega
end Go.Proofs.Ytoolgphkfnkajaa.X
