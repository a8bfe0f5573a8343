/-
  What the row of all plans tells: caps and cameras fall along it. Plain; no program.
-/
import Derived.Test.YtnghandgghfloaaB4
namespace Go.Proofs.Ytnghandgghfloaa.X
open Go Go.RowKit
set_option linter.unusedVariables false
set_option linter.unusedSimpArgs false
/-- The plans as pairs: a cap, and how many cameras. -/
def prs (n m : Nat) : List (Int × Int) := if n = 0 then (List.range (m + 1)).map (fun k : Nat => ((-1 : Int), (m : Int) - k)) else ((List.range n).map fun k : Nat => ((n : Int) - 1 - k, (m : Int))) ++ ((List.range m).map fun k : Nat => ((0 : Int), (m : Int) - (k + 1))) ++ [(-1, 0)]
def toP (m : Nat) (z : Int × Int) : Int × List Bool := (z.1, fl m z.2)
theorem plans_prs (n m : Nat) : plansOf n m = (prs n m).map (toP m) := by
  unfold plansOf prs
  split
  · simp [plan0, toP, Function.comp_def]
  · simp [planA, planB, toP, Function.comp_def]
def Le2 (a b : Int × Int) : Prop := b.1 ≤ a.1 ∧ b.2 ≤ a.2
theorem pw_range {α : Type} (f : Nat → α) (R : α → α → Prop) (n : Nat) (h : ∀ i j, i < j → j < n → R (f i) (f j)) : ((List.range n).map f).Pairwise R := by
  rw [List.pairwise_iff_getElem]
  intro i j hi hj hij
  simp only [List.length_map, List.length_range] at hi hj
  simpa using h i j hij hj
theorem prs_pw (n m : Nat) : (prs n m).Pairwise Le2 := by
  unfold prs
  split
  · exact pw_range _ _ _ fun i j h1 h2 => by unfold Le2; dsimp only; omega
  · rw [List.pairwise_append, List.pairwise_append]
    refine ⟨⟨pw_range _ _ _ fun i j h1 h2 => by unfold Le2; dsimp only; omega, pw_range _ _ _ fun i j h1 h2 => by unfold Le2; dsimp only; omega, ?_⟩, by simp, ?_⟩
    · intro a ha b hb
      obtain ⟨i, hi, rfl⟩ := List.mem_map.1 ha
      obtain ⟨j, hj, rfl⟩ := List.mem_map.1 hb
      rw [List.mem_range] at hi hj
      unfold Le2; dsimp only; omega
    · intro a ha b hb
      rw [List.mem_singleton] at hb
      subst hb
      rcases List.mem_append.1 ha with ha | ha
      · obtain ⟨i, hi, rfl⟩ := List.mem_map.1 ha
        rw [List.mem_range] at hi
        unfold Le2; dsimp only; omega
      · obtain ⟨j, hj, rfl⟩ := List.mem_map.1 ha
        rw [List.mem_range] at hj
        unfold Le2; dsimp only; omega
theorem prs_mem {n m : Nat} {z : Int × Int} (h : z ∈ prs n m) : -1 ≤ z.1 ∧ z.1 < n ∧ 0 ≤ z.2 ∧ z.2 ≤ m ∧ (0 < z.1 → z.2 = m) ∧ (z.1 < 0 → 0 < n → z.2 = 0) := by
  unfold prs at h
  split at h
  · obtain ⟨k, hk, rfl⟩ := List.mem_map.1 h
    rw [List.mem_range] at hk
    dsimp only; omega
  · rcases List.mem_append.1 h with h | h
    · rcases List.mem_append.1 h with h | h
      · obtain ⟨k, hk, rfl⟩ := List.mem_map.1 h
        rw [List.mem_range] at hk
        dsimp only; omega
      · obtain ⟨k, hk, rfl⟩ := List.mem_map.1 h
        rw [List.mem_range] at hk
        dsimp only; omega
    · rw [List.mem_singleton] at h; subst h; dsimp only; omega
theorem find_le {α : Type} {R : α → α → Prop} (hR : ∀ a, R a a) (P P' : α → Bool) (h : ∀ a, P a = true → P' a = true) : ∀ (l : List α), l.Pairwise R → ∀ x y, l.find? P = some x → l.find? P' = some y → R y x
  | [], _, x, y, h1, _ => by cases h1
  | a :: r, hp, x, y, h1, h2 => by
    rw [List.find?_cons] at h1 h2
    rw [List.pairwise_cons] at hp
    cases ha : P a with
    | true =>
      rw [ha] at h1
      rw [h a ha] at h2
      simp only [Option.some.injEq] at h1 h2
      subst h1; subst h2; exact hR a
    | false =>
      rw [ha] at h1
      cases hb : P' a with
      | true =>
        rw [hb] at h2
        simp only [Option.some.injEq] at h2
        subst h2
        exact hp.1 x (List.mem_of_find?_eq_some h1)
      | false =>
        rw [hb] at h2
        exact find_le hR P P' h r hp.2 x y h1 h2
/-- What a rate buys: a cap, and how many cameras. -/
def pk (ct cm : List Int) (rate : Int) (n m : Nat) : Option (Int × Int) := (prs n m).find? fun z => decide (costC ct cm z.1 (fl m z.2) ≤ rate)
theorem pick_pk (ct cm : List Int) (rate : Int) (n m : Nat) : pick ct cm rate (plansOf n m) = (pk ct cm rate n m).map (toP m) := by
  unfold pick pk
  rw [plans_prs, List.find?_map]
  rfl
theorem pk_some (ct cm : List Int) (rate : Int) (h : 0 ≤ rate) (n m : Nat) : ∃ z, pk ct cm rate n m = some z := by
  obtain ⟨z, hz⟩ := pick_some ct cm rate h n m
  rw [pick_pk] at hz
  cases hp : pk ct cm rate n m with
  | some z => exact ⟨z, rfl⟩
  | none => rw [hp] at hz; cases hz
theorem pk_fair (ct cm : List Int) (rate rate2 : Int) (n m : Nat) (h : rate ≤ rate2) (x y : Int × Int) (hx : pk ct cm rate n m = some x) (hy : pk ct cm rate2 n m = some y) : x.1 ≤ y.1 ∧ x.2 ≤ y.2 :=
  find_le (R := Le2) (fun a => ⟨Int.le_refl _, Int.le_refl _⟩) _ _ (fun a ha => by simp only [decide_eq_true_eq] at ha ⊢; omega) _ (prs_pw n m) x y hx hy
theorem find_front {α : Type} (P : α → Bool) (l : List α) (a b x : α) (h : (l ++ [b]).find? P = some x) (ha : a ∈ l) (hp : P a = true) : x ∈ l := by
  rw [List.find?_append] at h
  cases hf : l.find? P with
  | some y => rw [hf] at h; simp at h; subst h; exact List.mem_of_find?_eq_some hf
  | none => have := (List.find?_eq_none.1 hf) a ha; rw [hp] at this; exact absurd rfl this
theorem base0 {ct : List Int} (h : 0 < ct.length) : baseC ct 0 = ct[0] := by
  unfold baseC
  rw [if_pos ⟨by omega, h⟩]
  have : (min 0 (((ct.length : Nat) : Int) - 1)).toNat = 0 := by omega
  rw [this]
  simp [List.getD_eq_getElem?_getD, h]
theorem pk_cap (ct cm : List Int) (rate : Int) (hR : Rgt ct cm) (hn : 0 < ct.length) (h : 1500 ≤ rate) (x : Int × Int) (hx : pk ct cm rate ct.length cm.length = some x) : 0 ≤ x.1 := by
  unfold pk prs at hx
  rw [if_neg (by omega)] at hx
  have h0 := hR.2.2.2 hn
  have hcost : costC ct cm 0 (fl cm.length 0) ≤ rate := by
    unfold costC
    rw [sumC_off _ _ (fun p hp => fl_zero _ _ (List.of_mem_zip hp).2), base0 hn]
    omega
  have hmem : ((0 : Int), (0 : Int)) ∈ ((List.range ct.length).map fun k : Nat => ((ct.length : Int) - 1 - k, (cm.length : Int))) ++ ((List.range cm.length).map fun k : Nat => ((0 : Int), (cm.length : Int) - (k + 1))) := by
    by_cases hm : cm.length = 0
    · refine List.mem_append_left _ (List.mem_map.2 ⟨ct.length - 1, List.mem_range.2 (by omega), ?_⟩)
      rw [hm]
      simp only [Prod.mk.injEq]
      omega
    · refine List.mem_append_right _ (List.mem_map.2 ⟨cm.length - 1, List.mem_range.2 (by omega), ?_⟩)
      simp only [Prod.mk.injEq, true_and]
      omega
  have := find_front _ _ _ _ _ hx hmem (decide_eq_true hcost)
  rcases List.mem_append.1 this with h | h
  · obtain ⟨k, hk, rfl⟩ := List.mem_map.1 h
    rw [List.mem_range] at hk
    dsimp only; omega
  · obtain ⟨k, hk, rfl⟩ := List.mem_map.1 h
    dsimp only; omega
end Go.Proofs.Ytnghandgghfloaa.X
