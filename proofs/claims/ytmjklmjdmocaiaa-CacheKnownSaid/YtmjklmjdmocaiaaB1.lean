/-
  CacheLast: the plain law: which packets are there.
-/
import Derived.Test.YtmjklmjdmocaiaaA9
namespace Go.Proofs.Ytmjklmjdmocaiaa.X
open Go Go.RowKit
set_option linter.unusedVariables false
set_option linter.unusedSimpArgs false
/-- Place k is the last one of m, ahead of i. -/
structure LastN (ns : List Int) (i k : Nat) (m : Int) : Prop where
  lt : k < i
  num : ns[k]? = some m
  last : ∀ j, k < j → j < i → ns[j]? ≠ some m
theorem LastN.uniq {ns : List Int} {i k k' : Nat} {m : Int} (h : LastN ns i k m) (h' : LastN ns i k' m) : k = k' := by
  rcases Nat.lt_trichotomy k k' with hlt | rfl | hlt
  · exact absurd h'.num (h.last k' hlt h'.lt)
  · rfl
  · exact absurd h.num (h'.last k hlt h.lt)
theorem LastN.new {ns : List Int} {i : Nat} {m : Int} (h : ns[i]? = some m) : LastN ns (i + 1) i m := ⟨Nat.lt_succ_self i, h, fun j h1 h2 => by omega⟩
theorem LastN.on {ns : List Int} {i k : Nat} {m : Int} (h : LastN ns i k m) (hi : ns[i]? ≠ some m) : LastN ns (i + 1) k m := ⟨Nat.lt_succ_of_lt h.lt, h.num, fun j h1 h2 => by
  by_cases e : j = i
  · subst e; exact hi
  · exact h.last j h1 (by omega)⟩
theorem LastN.back {ns : List Int} {i k : Nat} {m : Int} (h : LastN ns (i + 1) k m) (hi : ns[i]? ≠ some m) : LastN ns i k m := by
  have hk : k ≠ i := fun e => hi (by rw [← e]; exact h.num)
  exact ⟨by have := h.lt; omega, h.num, fun j h1 h2 => h.last j h1 (by omega)⟩
structure LastI (ns : List Int) (i : Nat) (s : Sta) : Prop where
  a : ∀ p, p ∈ s.l → ∃ k : Nat, LastN ns i k p.n ∧ p.bs = [(k : Int)]
  b : ∀ m k, LastN ns i k m → (∃ p, p ∈ s.l ∧ p.n = m) ∨ (s.size ≤ s.l.length ∧ ∀ p, p ∈ s.l → ∀ k', LastN ns i k' p.n → k < k')
  c : s.l.Pairwise fun p q => ∀ k k', LastN ns i k p.n → LastN ns i k' q.n → k < k'
  fit : (s.l.length : Int) ≤ s.size
  pos : 1 ≤ s.size
  nod : (s.l.map Pp.n).Nodup
theorem LastI.start (ns : List Int) (size hold : Int) (h : 1 ≤ size) : LastI ns 0 ⟨size, hold, []⟩ :=
  ⟨(fun _ h => by cases h), (fun m k h => absurd h.lt (Nat.not_lt_zero k)), List.Pairwise.nil, by simp; omega, h, List.nodup_nil⟩
theorem cutTo_sub (size : Int) (l : List Pp) : (cutTo size l).Sublist l := by
  unfold cutTo; split
  · exact List.tail_sublist l
  · exact List.Sublist.refl l
theorem LastI.put {ns : List Int} {i : Nat} {s : Sta} (h : LastI ns i s) {m : Int} (hm : ns[i]? = some m) : LastI ns (i + 1) (s.put m [(i : Int)]) := by
  obtain ⟨ha, hb, hc, hfit, hpos, hnod⟩ := h
  have hne : ∀ p, p ∈ s.l.eraseP (fun q => q.n == m) → p.n ≠ m := fun p hp e => pp_erase s.l m hnod (List.mem_map.2 ⟨p, hp, e⟩)
  have hne' : ∀ {x : Int}, x ≠ m → ns[i]? ≠ some x := fun hx e => hx (by rw [hm] at e; exact (Option.some.inj e).symm)
  -- the row ahead of the cut
  have ha2 : ∀ p, p ∈ s.l.eraseP (fun q => q.n == m) ++ [⟨m, [(i : Int)], false, 0⟩] → ∃ k : Nat, LastN ns (i + 1) k p.n ∧ p.bs = [(k : Int)] := fun p hp => by
    rcases List.mem_append.1 hp with hp | hp
    · obtain ⟨k, hk, e⟩ := ha p (List.mem_of_mem_eraseP hp)
      exact ⟨k, hk.on (hne' (hne p hp)), e⟩
    · rw [List.mem_singleton] at hp
      subst hp
      exact ⟨i, LastN.new hm, rfl⟩
  have hc2 : (s.l.eraseP (fun q => q.n == m) ++ [(⟨m, [(i : Int)], false, 0⟩ : Pp)]).Pairwise fun p q => ∀ k k', LastN ns (i + 1) k p.n → LastN ns (i + 1) k' q.n → k < k' := by
    rw [List.pairwise_append]
    refine ⟨?_, List.pairwise_singleton _ _, fun p hp q hq k k' h1 h2 => ?_⟩
    · refine List.Pairwise.imp_of_mem ?_ (hc.sublist List.eraseP_sublist)
      intro p q hp hq hpq k k' h1 h2
      exact hpq k k' (h1.back (hne' (hne p hp))) (h2.back (hne' (hne q hq)))
    · rw [List.mem_singleton] at hq
      subst hq
      have e := h2.uniq (LastN.new hm)
      subst e
      exact (h1.back (hne' (hne p hp))).lt
  have hnod2 : ((s.l.eraseP (fun q => q.n == m) ++ [(⟨m, [(i : Int)], false, 0⟩ : Pp)]).map Pp.n).Nodup := by
    rw [List.map_append]
    refine List.nodup_append.2 ⟨(hnod.sublist ((List.eraseP_sublist (p := fun q => q.n == m)).map Pp.n)), by simp, ?_⟩
    intro x hx y hy e
    simp only [List.map_cons, List.map_nil, List.mem_singleton] at hy
    subst hy; subst e
    exact pp_erase s.l _ hnod hx
  have hl2 : s.l.length ≤ (s.l.eraseP (fun q => q.n == m) ++ [(⟨m, [(i : Int)], false, 0⟩ : Pp)]).length := by
    rw [List.length_append]
    have := List.le_length_eraseP (l := s.l) (p := fun q => q.n == m)
    simp only [List.length_cons, List.length_nil]; omega
  have hl3 : (s.l.eraseP (fun q => q.n == m) ++ [(⟨m, [(i : Int)], false, 0⟩ : Pp)]).length ≤ s.l.length + 1 := by
    rw [List.length_append]
    have : (s.l.eraseP (fun q => q.n == m)).length ≤ s.l.length := List.length_eraseP_le
    simp only [List.length_cons, List.length_nil]; omega
  have hb2 : ∀ x k, LastN ns (i + 1) k x → (∃ p, p ∈ s.l.eraseP (fun q => q.n == m) ++ [⟨m, [(i : Int)], false, 0⟩] ∧ p.n = x) ∨ (s.size ≤ s.l.length ∧ ∀ p, p ∈ s.l.eraseP (fun q => q.n == m) ++ [⟨m, [(i : Int)], false, 0⟩] → ∀ k', LastN ns (i + 1) k' p.n → k < k') := fun x k hk => by
    by_cases hx : x = m
    · subst hx; exact .inl ⟨_, List.mem_append_right _ (List.Mem.head _), rfl⟩
    · have hk' := hk.back (hne' hx)
      rcases hb x k hk' with ⟨p, hp, rfl⟩ | ⟨h1, h2⟩
      · exact .inl ⟨p, List.mem_append_left _ ((List.mem_eraseP_of_neg (by simpa using hx)).2 hp), rfl⟩
      · refine .inr ⟨h1, fun p hp k2 hk2 => ?_⟩
        rcases List.mem_append.1 hp with hp | hp
        · exact h2 p (List.mem_of_mem_eraseP hp) k2 (hk2.back (hne' (hne p hp)))
        · rw [List.mem_singleton] at hp
          subst hp
          have e := hk2.uniq (LastN.new hm)
          subst e
          exact hk'.lt
  have hput : (s.put m [(i : Int)]) = ⟨s.size, s.hold, cutTo s.size (s.l.eraseP (fun q => q.n == m) ++ [⟨m, [(i : Int)], false, 0⟩])⟩ := rfl
  rw [hput]
  generalize hg : s.l.eraseP (fun q => q.n == m) ++ [(⟨m, [(i : Int)], false, 0⟩ : Pp)] = l2 at *
  have hsub := cutTo_sub s.size l2
  refine ⟨fun p hp => ha2 p (hsub.subset hp), fun x k hk => ?_, hc2.sublist hsub, ?_, hpos, hnod2.sublist (hsub.map _)⟩
  · dsimp only
    rcases hb2 x k hk with ⟨p, hp, rfl⟩ | ⟨h1, h2⟩
    · unfold cutTo
      split
      · rename_i hlt
        match l2, hp, hc2, hlt with
        | q :: r, hp, hc2, hlt =>
          rcases List.mem_cons.1 hp with rfl | hp
          · refine .inr ⟨by simp at hlt ⊢; omega, fun q' hq' k' hk' => ?_⟩
            exact (List.pairwise_cons.1 hc2).1 q' hq' k k' hk hk'
          · exact .inl ⟨p, hp, rfl⟩
      · exact .inl ⟨p, hp, rfl⟩
    · refine .inr ⟨?_, fun p hp k' hk' => h2 p (hsub.subset hp) k' hk'⟩
      unfold cutTo
      split
      · rw [List.length_tail]; omega
      · omega
  · dsimp only
    unfold cutTo
    split
    · rw [List.length_tail]; omega
    · omega

/-- What the search from the end has found so far: the numbers whose last place is at least j. -/
structure WantI (ns : List Int) (s : Sta) (j : Nat) (ws : List Int) : Prop where
  le : j ≤ ns.length
  mem : ∀ x, x ∈ ws ↔ ∃ k, j ≤ k ∧ LastN ns ns.length k x
  nod : ws.Nodup
  sub : ∀ x, x ∈ ws → x ∈ s.l.map Pp.n
theorem nodup_sub_le {a b : List Int} (h : a.Nodup) (hs : ∀ x, x ∈ a → x ∈ b) : a.length ≤ b.length := by
  induction a generalizing b with
  | nil => simp
  | cons x r ih =>
    rw [List.nodup_cons] at h
    have hx := hs x (by simp)
    have := ih h.2 (b := b.erase x) fun y hy => by
      have hne : y ≠ x := fun e => h.1 (e ▸ hy)
      exact (List.mem_erase_of_ne hne).2 (hs y (by simp [hy]))
    rw [List.length_erase_of_mem hx] at this
    have : 0 < b.length := List.length_pos_of_mem hx
    simp only [List.length_cons]
    omega
theorem WantI.start (ns : List Int) (s : Sta) : WantI ns s ns.length [] :=
  ⟨Nat.le_refl _, fun x => ⟨(fun h => by cases h), (fun ⟨k, h1, h2⟩ => by have := h2.lt; omega)⟩, List.nodup_nil, (fun x h => by cases h)⟩
theorem WantI.skip {ns : List Int} {s : Sta} {j : Nat} {ws : List Int} (h : WantI ns s (j + 1) ws) {x : Int} (hx : ns[j]? = some x) (hw : x ∈ ws) : WantI ns s j ws := by
  refine ⟨by have := h.le; omega, fun y => ⟨fun hy => ?_, fun ⟨k, h1, h2⟩ => ?_⟩, h.nod, h.sub⟩
  · obtain ⟨k, h1, h2⟩ := (h.mem y).1 hy
    exact ⟨k, by omega, h2⟩
  · by_cases e : k = j
    · subst e
      have : y = x := by have := h2.num; rw [hx] at this; exact (Option.some.inj this).symm
      subst this; exact hw
    · exact (h.mem y).2 ⟨k, by omega, h2⟩
theorem WantI.lastN {ns : List Int} {s : Sta} {j : Nat} {ws : List Int} (h : WantI ns s (j + 1) ws) {x : Int} (hx : ns[j]? = some x) (hw : x ∉ ws) : LastN ns ns.length j x := by
  have hj := h.le
  -- the last place of x
  have : ∀ d j, d = ns.length - j → j < ns.length → ns[j]? = some x → ∃ k, j ≤ k ∧ LastN ns ns.length k x := by
    intro d
    induction d using Nat.strongRecOn with
    | _ d ih =>
      intro j hd hj hx
      by_cases hl : ∀ i, j < i → i < ns.length → ns[i]? ≠ some x
      · exact ⟨j, Nat.le_refl _, hj, hx, hl⟩
      · have : ∃ i, j < i ∧ i < ns.length ∧ ns[i]? = some x := by
          apply Classical.byContradiction
          intro hn
          exact hl fun i h1 h2 h3 => hn ⟨i, h1, h2, h3⟩
        obtain ⟨i, h1, h2, h3⟩ := this
        obtain ⟨k, hk, hl⟩ := ih (ns.length - i) (by omega) i rfl h2 h3
        exact ⟨k, by omega, hl⟩
  obtain ⟨k, h1, h2⟩ := this _ j rfl (by omega) hx
  by_cases e : k = j
  · subst e; exact h2
  · exact absurd ((h.mem x).2 ⟨k, by omega, h2⟩) hw
theorem WantI.there {ns : List Int} {s : Sta} {j : Nat} {ws : List Int} (h : WantI ns s (j + 1) ws) (hs : LastI ns ns.length s) {x : Int} (hx : ns[j]? = some x) (hw : x ∉ ws) (hlen : (ws.length : Int) < s.size) : ∃ p, s.has x = some p ∧ p.bs = [(j : Int)] := by
  have hl := h.lastN hx hw
  rcases hs.b x j hl with ⟨p, hp, hpx⟩ | ⟨h1, h2⟩
  · have hsome : (s.has x).isSome = true := by
      unfold Sta.has
      rw [List.find?_isSome]
      exact ⟨p, hp, by simpa using hpx⟩
    obtain ⟨q, hq⟩ := Option.isSome_iff_exists.1 hsome
    have hqm := List.mem_of_find?_eq_some hq
    have hqx : q.n = x := by have := List.find?_some hq; simpa using this
    obtain ⟨k, hk, hb⟩ := hs.a q hqm
    rw [hqx] at hk
    have := hk.uniq hl
    subst this
    exact ⟨q, hq, hb⟩
  · exfalso
    have hle : (s.l.map Pp.n).length ≤ ws.length := nodup_sub_le hs.nod fun y hy => by
      obtain ⟨q, hq, rfl⟩ := List.mem_map.1 hy
      obtain ⟨k, hk, _⟩ := hs.a q hq
      exact (h.mem _).2 ⟨k, h2 q hq k hk, hk⟩
    rw [List.length_map] at hle
    omega
theorem WantI.step {ns : List Int} {s : Sta} {j : Nat} {ws : List Int} (h : WantI ns s (j + 1) ws) (hs : LastI ns ns.length s) {x : Int} (hx : ns[j]? = some x) (hw : x ∉ ws) (hlen : (ws.length : Int) < s.size) : WantI ns s j (ws ++ [x]) := by
  have hl := h.lastN hx hw
  obtain ⟨p, hp, _⟩ := h.there hs hx hw hlen
  have hpm := List.mem_of_find?_eq_some hp
  have hpx : p.n = x := by have := List.find?_some hp; simpa using this
  refine ⟨by have := h.le; omega, fun y => ⟨fun hy => ?_, fun ⟨k, h1, h2⟩ => ?_⟩, List.nodup_append.2 ⟨h.nod, by simp, ?_⟩, fun y hy => ?_⟩
  · rcases List.mem_append.1 hy with hy | hy
    · obtain ⟨k, h1, h2⟩ := (h.mem y).1 hy
      exact ⟨k, by omega, h2⟩
    · rw [List.mem_singleton] at hy
      subst hy
      exact ⟨j, Nat.le_refl _, hl⟩
  · by_cases e : k = j
    · subst e
      have : y = x := by have := h2.num; rw [hx] at this; exact (Option.some.inj this).symm
      subst this; simp
    · exact List.mem_append_left _ ((h.mem y).2 ⟨k, by omega, h2⟩)
  · intro a ha b hb e
    rw [List.mem_singleton] at hb
    subst hb; subst e; exact hw ha
  · rcases List.mem_append.1 hy with hy | hy
    · exact h.sub y hy
    · rw [List.mem_singleton] at hy
      subst hy
      exact List.mem_map.2 ⟨p, hpm, hpx⟩
theorem WantI.done {ns : List Int} {s : Sta} {j : Nat} {ws : List Int} (h : WantI ns s j ws) (hs : LastI ns ns.length s) (he : j = 0 ∨ ¬ (ws.length : Int) < s.size) : s.l.length = ws.length := by
  have h1 : ws.length ≤ (s.l.map Pp.n).length := nodup_sub_le h.nod h.sub
  rw [List.length_map] at h1
  rcases he with rfl | he
  · have h2 : (s.l.map Pp.n).length ≤ ws.length := nodup_sub_le hs.nod fun y hy => by
      obtain ⟨q, hq, rfl⟩ := List.mem_map.1 hy
      obtain ⟨k, hk, _⟩ := hs.a q hq
      exact (h.mem _).2 ⟨k, Nat.zero_le _, hk⟩
    rw [List.length_map] at h2
    omega
  · have := hs.fit
    omega
end Go.Proofs.Ytmjklmjdmocaiaa.X
