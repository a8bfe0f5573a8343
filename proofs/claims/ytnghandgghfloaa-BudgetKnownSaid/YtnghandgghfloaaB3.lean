/-
  The plan of any rate by any costs: walks of my own.
-/
import Derived.Test.YtnghandgghfloaaB2
namespace Go.Proofs.Ytnghandgghfloaa.X
open Go Go.RowKit
set_option linter.unusedVariables false
set_option linter.unusedSimpArgs false
theorem fl_zero (m : Nat) : ∀ b, b ∈ fl m 0 → b = false := by
  intro b hb
  unfold fl at hb
  obtain ⟨i, _, rfl⟩ := List.mem_map.1 hb
  exact decide_eq_false (by omega)
theorem sumC_off (s : Int) : ∀ (l : List (Int × Bool)), (∀ p, p ∈ l → p.2 = false) → sumC s l = s
  | [], _ => rfl
  | p :: r, h => by
    show sumC (if p.2 then sat s p.1 else s) r = s
    rw [if_neg (by rw [h p (List.mem_cons_self ..)]; decide)]
    exact sumC_off s r fun q hq => h q (List.mem_cons_of_mem _ hq)
theorem cost_off (ct cm : List Int) (m : Nat) : costC ct cm (-1) (fl m 0) = 0 := by
  unfold costC
  rw [sumC_off]
  · unfold baseC; rw [if_neg (by omega)]
  · intro p hp
    exact fl_zero m _ (List.of_mem_zip hp).2
theorem off_mem (n m : Nat) : ((-1 : Int), fl m 0) ∈ plansOf n m := by
  unfold plansOf
  split
  · unfold plan0
    exact List.mem_map.2 ⟨m, List.mem_range.2 (by omega), by simp⟩
  · simp
theorem pick_some (ct cm : List Int) (rate : Int) (h : 0 ≤ rate) (n m : Nat) : ∃ z, pick ct cm rate (plansOf n m) = some z := by
  cases hz : pick ct cm rate (plansOf n m) with
  | some z => exact ⟨z, rfl⟩
  | none =>
    have := (List.find?_eq_none.1 hz) _ (off_mem n m)
    simp [cost_off] at this
    omega
open Classical in
noncomputable def zA (ct cm : List Int) (rate : Int) : Int × List Bool := if Rgt ct cm then (pick ct cm rate (plansOf ct.length cm.length)).getD (0, []) else (0, [])
open Classical in
noncomputable def eA (ct cm : List Int) : Int := if Rgt ct cm then 0 else 2
theorem mem_plans_len {n m : Nat} {z : Int × List Bool} (h : z ∈ plansOf n m) : z.2.length = m := by
  rw [plans_split] at h
  rcases List.mem_append.1 h with h | h
  · rcases List.mem_append.1 h with h | h
    · obtain ⟨_, _, rfl⟩ := List.mem_map.1 h; exact fl_len _ _
    · obtain ⟨_, _, rfl⟩ := List.mem_map.1 h; exact fl_len _ _
  · split at h
    · cases h
    · rw [List.mem_singleton] at h; subst h; exact fl_len _ _
theorem zA_len (ct cm : List Int) (rate : Int) (h : 0 ≤ rate) : (zA ct cm rate).2.length ≤ 32 := by
  unfold zA
  split
  · rename_i hR
    obtain ⟨z, hz⟩ := pick_some ct cm rate h ct.length cm.length
    rw [hz]
    have := mem_plans_len (List.mem_of_find?_eq_some hz)
    have h2 := hR.2.1
    show z.2.length ≤ 32
    omega
  · exact Nat.zero_le _
theorem xf_allocU {W : World} {L : List Blk} (rate : Int) (p q : Option Addr) (n c m d : Nat) (ct cm : List Int) (hn : ct.length = n) (hm : cm.length = m) (hr : Rs W L p (ints .u64 ct)) (hq : Rs W L q (ints .u64 cm)) (hU : ∀ x, x ∈ ct → U x) (hU2 : ∀ x, x ∈ cm → U x) (hb : n ≤ 1000) (hb2 : m ≤ 1000) (h0 : 0 ≤ rate) :
    XF Try.prog W 11 #[.int .u64 rate, .agg #[.slice p n c, .slice q m d]] L (fun v L' => ∃ s k l, v = .tuple #[.agg #[.int .i64 (zA ct cm rate).1, .slice s (zA ct cm rate).2.length k], .int .i64 (eA ct cm)] ∧ SlO 1 4 (.slice s (zA ct cm rate).2.length k) (zA ct cm rate).2.length (bls (zA ct cm rate).2) l ∧ L' = l ++ L) := by
  subst hn; subst hm
  by_cases hR : Rgt ct cm
  · obtain ⟨z, hz⟩ := pick_some ct cm rate h0 ct.length cm.length
    have hz1 : zA ct cm rate = z := by unfold zA; rw [if_pos hR, hz]; rfl
    have he1 : eA ct cm = 0 := by unfold eA; rw [if_pos hR]
    rw [hz1, he1]
    exact xf_alloc2 rate p q _ c _ d ct cm rfl rfl hr hq hU hU2 hb hb2 hR z hz
  · have hz1 : zA ct cm rate = (0, []) := by unfold zA; rw [if_neg hR]
    have he1 : eA ct cm = 2 := by unfold eA; rw [if_neg hR]
    rw [hz1, he1]
    refine (xf_alloc_bad rate p q _ c _ d ct cm rfl rfl hr hb hb2 hR).mono ?_
    rintro v L' ⟨rfl, rfl⟩
    exact ⟨none, 0, [], rfl, SlO.nil, rfl⟩
theorem xf_rallocU {W : World} {L : List Blk} (rate : Int) (p q : Option Addr) (n c m d : Nat) (ct cm : List Int) (hn : ct.length = n) (hm : cm.length = m) (hr : Rs W L p (ints .u64 ct)) (hq : Rs W L q (ints .u64 cm)) (hU : ∀ x, x ∈ ct → U x) (hU2 : ∀ x, x ∈ cm → U x) (hb : n ≤ 1000) (hb2 : m ≤ 1000) (h0 : 0 ≤ rate) :
    XF Try.prog W 10 #[.int .u64 rate, .agg #[.slice p n c, .slice q m d]] L (fun v L' => ∃ s k l, v = .tuple #[.agg #[.int .i64 (zA ct cm rate).1, .slice s (zA ct cm rate).2.length k], .int .i64 (eA ct cm)] ∧ SlO 1 4 (.slice s (zA ct cm rate).2.length k) (zA ct cm rate).2.length (bls (zA ct cm rate).2) l ∧ L' = l ++ L) := by
  subst hn; subst hm
  by_cases hR : Rgt ct cm
  · obtain ⟨z, hz⟩ := pick_some ct cm rate h0 ct.length cm.length
    have hz1 : zA ct cm rate = z := by unfold zA; rw [if_pos hR, hz]; rfl
    have he1 : eA ct cm = 0 := by unfold eA; rw [if_pos hR]
    rw [hz1, he1]
    refine (xf_ralloc rate p q _ c _ d ct cm rfl rfl hr hq hU hU2 hb hb2 hR z hz).mono ?_
    rintro v L' ⟨⟨cap, on, v, l⟩, rfl, hw, hpl, rfl⟩
    obtain ⟨s, k, h1, h2⟩ := hw.opn
    dsimp only at h1
    subst h1
    subst hpl
    exact ⟨s, k, l, rfl, h2, rfl⟩
  · have hz1 : zA ct cm rate = (0, []) := by unfold zA; rw [if_neg hR]
    have he1 : eA ct cm = 2 := by unfold eA; rw [if_neg hR]
    rw [hz1, he1]
    refine (xf_ralloc_bad rate p q _ c _ d ct cm rfl rfl hr hb hb2 hR).mono ?_
    rintro v L' ⟨rfl, rfl⟩
    exact ⟨none, 0, [], rfl, SlO.nil, rfl⟩
end Go.Proofs.Ytnghandgghfloaa.X
