/-
  What Until tells is just enough: the plain law.
-/
import Derived.Test.YtjjbkpfknihkbaaB5
namespace Go.Proofs.Ytjjbkpfknihkbaa.X
open Go Go.RowKit
set_option linter.unusedVariables false

theorem Bk.Ok.fill_lt {x : Bk} (hx : x.Ok) {m n : Int} (hm : x.a ≤ m) (ht : x.t < n) (hn : n ≤ top) (h : x.r * (m - x.a) < n - x.t) : ¬ (x.fill m).may n := by
  have h0 := Int.mul_nonneg hx.r0 (show 0 ≤ m - x.a by omega)
  have ht0 := hx.t0
  unfold Bk.may Bk.fill
  split
  · dsimp only
    unfold plus times cut
    generalize x.r * (m - x.a) = q at *
    rw [if_pos (show q ≤ top by omega), if_pos (show x.t + q ≤ top by omega)]
    split <;> omega
  · omega
theorem Bk.Ok.fill_ge {x : Bk} (hx : x.Ok) {m n : Int} (hm : x.a < m) (hb : n ≤ x.b) (h : n - x.t ≤ x.r * (m - x.a)) : (x.fill m).may n := by
  have h0 := Int.mul_nonneg hx.r0 (show 0 ≤ m - x.a by omega)
  have ht0 := hx.t0
  have hb2 := hx.b2
  unfold Bk.may Bk.fill
  rw [if_pos hm]
  dsimp only
  unfold plus times cut
  generalize x.r * (m - x.a) = q at *
  split <;> split <;> split <;> omega
theorem Bk.Ok.fill_le {x : Bk} (hx : x.Ok) {m : Int} : (x.fill m).t ≤ x.b := by
  have := hx.tb
  unfold Bk.fill
  split
  · dsimp only; unfold cut; split <;> omega
  · exact this
/-- The steps up to a number, rounded up. -/
theorem steps {m r : Int} (hm : 1 ≤ m) (hr : 1 ≤ r) : r * ((m - 1) / r) < m ∧ m ≤ r * ((m - 1) / r + 1) := by
  have h := Int.mul_ediv_add_emod (m - 1) r
  have h0 := Int.emod_nonneg (m - 1) (show r ≠ 0 by omega)
  have h1 := Int.emod_lt_of_pos (m - 1) (show 0 < r by omega)
  rw [Int.mul_add]
  generalize r * ((m - 1) / r) = q at *
  omega
theorem Bk.Ok.until_no {x : Bk} (hx : x.Ok) {n : Int} (hn : 0 ≤ n) (hn' : n ≤ top) (h : (x.until' n).2 = false) : (x.until' n).1 = 0 ∧ ¬ (x.fill top).may n := by
  unfold Bk.until' at h ⊢
  have ha1 := hx.a1
  have hr0 := hx.r0
  by_cases h1 : x.may n
  · rw [if_pos h1] at h; cases h
  · rw [if_neg h1] at h ⊢
    have h1' : ¬ n ≤ x.t := h1
    by_cases h2 : x.b < n ∨ x.r = 0
    · rw [if_pos h2]
      refine ⟨rfl, ?_⟩
      rcases h2 with h2 | h2
      · have := hx.fill_le (m := top)
        unfold Bk.may; omega
      · refine hx.fill_lt ha1 (by omega) hn' ?_
        rw [h2, Int.zero_mul]; omega
    · rw [if_neg h2] at h ⊢
      by_cases h3 : top - x.a < (n - x.t - 1) / x.r + 1
      · rw [if_pos h3]
        refine ⟨rfl, hx.fill_lt ha1 (by omega) hn' ?_⟩
        have h4 := (steps (m := n - x.t) (r := x.r) (by omega) (by omega)).1
        have h5 := Int.mul_le_mul_of_nonneg_left (show top - x.a ≤ (n - x.t - 1) / x.r by omega) hr0
        omega
      · rw [if_neg h3] at h; cases h
theorem Bk.Ok.until_yes {x : Bk} (hx : x.Ok) {n : Int} (hn : 0 ≤ n) (hn' : n ≤ top) (h : (x.until' n).2 = true) :
    x.a ≤ (x.until' n).1 ∧ (x.until' n).1 ≤ top ∧ (x.fill (x.until' n).1).may n ∧ (x.a < (x.until' n).1 → ¬ (x.fill ((x.until' n).1 - 1)).may n) := by
  unfold Bk.until' at h ⊢
  have ha1 := hx.a1
  have hr0 := hx.r0
  by_cases h1 : x.may n
  · rw [if_pos h1]
    refine ⟨Int.le_refl _, ha1, ?_, fun h => absurd h (by dsimp only; omega)⟩
    dsimp only
    rw [show x.fill x.a = x from if_neg (by omega)]; exact h1
  · rw [if_neg h1] at h ⊢
    have h1' : ¬ n ≤ x.t := h1
    by_cases h2 : x.b < n ∨ x.r = 0
    · rw [if_pos h2] at h; cases h
    · rw [if_neg h2] at h ⊢
      by_cases h3 : top - x.a < (n - x.t - 1) / x.r + 1
      · rw [if_pos h3] at h; cases h
      · rw [if_neg h3]
        dsimp only
        have h4 := steps (m := n - x.t) (r := x.r) (by omega) (by omega)
        have h5 : 0 ≤ (n - x.t - 1) / x.r := Int.ediv_nonneg (by omega) hr0
        generalize (n - x.t - 1) / x.r = q at *
        refine ⟨by omega, by omega, hx.fill_ge (by omega) (by omega) ?_, fun _ => hx.fill_lt (by omega) (by omega) hn' ?_⟩
        · rw [show x.a + (q + 1) - x.a = q + 1 by omega]; exact h4.2
        · rw [show x.a + (q + 1) - 1 - x.a = q by omega]; exact h4.1
end Go.Proofs.Ytjjbkpfknihkbaa.X
