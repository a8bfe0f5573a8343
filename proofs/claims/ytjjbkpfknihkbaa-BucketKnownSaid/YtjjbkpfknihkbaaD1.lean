/-
  What was taken never is more than the burst, and the rate times the ticks between: the plain law of BucketBounds.
-/
import Derived.Test.YtjjbkpfknihkbaaB7
namespace Go.Proofs.Ytjjbkpfknihkbaa.X
open Go Go.RowKit
set_option linter.unusedVariables false

def sm : List Int → Int
  | [] => 0
  | x :: r => x + sm r
theorem sm_append : ∀ (a b : List Int), sm (a ++ b) = sm a + sm b
  | [], b => by simp [sm]
  | x :: r, b => by simp only [List.cons_append, sm, sm_append r b]; omega
theorem sm_nonneg : ∀ (a : List Int), (∀ x ∈ a, 0 ≤ x) → 0 ≤ sm a
  | [], h => Int.le_refl _
  | x :: r, h => by
    have h1 := h x (List.mem_cons_self ..)
    have h2 := sm_nonneg r fun y hy => h y (List.mem_cons_of_mem _ hy)
    simp only [sm]; omega
/-- What was taken fits. -/
structure Fit (r b t a : Int) (ats tks : List Int) : Prop where
  len : tks.length = ats.length
  pos : ∀ x ∈ tks, 0 ≤ x ∧ x ≤ top
  rng : ∀ x ∈ ats, 0 ≤ x ∧ x ≤ a
  fit : ∀ (i k : Nat) (ai ak : Int), ats[i]? = some ai → ats[k]? = some ak → i ≤ k → sm ((tks.drop i).take (k + 1 - i)) ≤ b + r * (ak - ai) ∧ ai ≤ ak
  room : ∀ (i : Nat) (ai : Int), ats[i]? = some ai → sm (tks.drop i) + t ≤ b + r * (a - ai)
theorem Fit.nil {r b t a : Int} : Fit r b t a [] [] := ⟨rfl, by simp, by simp, by simp, by simp⟩
theorem Fit.fill {r b t a t' a' : Int} {ats tks : List Int} (h : Fit r b t a ats tks) (ha : a ≤ a') (ht : t' ≤ t + r * (a' - a)) : Fit r b t' a' ats tks := by
  refine ⟨h.len, h.pos, fun x hx => ⟨(h.rng x hx).1, by have := (h.rng x hx).2; omega⟩, h.fit, fun i ai hi => ?_⟩
  have h1 := h.room i ai hi
  have e : r * (a' - ai) = r * (a' - a) + r * (a - ai) := by rw [← Int.mul_add]; congr 1; omega
  omega
theorem Fit.take {r b t a n : Int} {ats tks : List Int} (h : Fit r b t a ats tks) (ha0 : 0 ≤ a) (hn : 0 ≤ n) (hn' : n ≤ top) (hnt : n ≤ t) (htb : t ≤ b) : Fit r b (t - n) a (ats ++ [a]) (tks ++ [n]) := by
  have hl := h.len
  refine ⟨by simp [hl], fun x hx => ?_, fun x hx => ?_, fun i k ai ak hi hk hik => ?_, fun i ai hi => ?_⟩
  · rcases List.mem_append.1 hx with hx | hx
    · exact h.pos x hx
    · simp only [List.mem_singleton] at hx; subst hx; exact ⟨hn, hn'⟩
  · rcases List.mem_append.1 hx with hx | hx
    · exact h.rng x hx
    · simp only [List.mem_singleton] at hx; subst hx; exact ⟨ha0, Int.le_refl _⟩
  · have hkl : k < ats.length + 1 := by simpa using (List.getElem?_eq_some_iff.1 hk).1
    by_cases hk1 : k < ats.length
    · rw [List.getElem?_append_left hk1] at hk
      rw [List.getElem?_append_left (by omega)] at hi
      rw [List.drop_append_of_le_length (by omega), List.take_append_of_le_length (by rw [List.length_drop]; omega)]
      exact h.fit i k ai ak hi hk hik
    · obtain rfl : k = ats.length := by omega
      rw [List.getElem?_append_right (Nat.le_refl _), Nat.sub_self] at hk
      simp only [List.getElem?_cons_zero, Option.some.injEq] at hk
      subst hk
      have hd : ((tks ++ [n]).drop i).take (ats.length + 1 - i) = tks.drop i ++ [n] := by
        rw [List.drop_append_of_le_length (by omega), List.take_of_length_le (by simp; omega)]
      rw [hd, sm_append]
      simp only [sm]
      by_cases hi1 : i < ats.length
      · rw [List.getElem?_append_left hi1] at hi
        have h1 := h.room i ai hi
        have h2 := (h.rng ai (List.mem_of_getElem? hi)).2
        exact ⟨by omega, h2⟩
      · obtain rfl : i = ats.length := by omega
        rw [List.getElem?_append_right (Nat.le_refl _), Nat.sub_self] at hi
        simp only [List.getElem?_cons_zero, Option.some.injEq] at hi
        subst hi
        rw [← hl, List.drop_length, Int.sub_self, Int.mul_zero]
        simp only [sm]
        exact ⟨by omega, Int.le_refl _⟩
  · have hil : i < ats.length + 1 := by simpa using (List.getElem?_eq_some_iff.1 hi).1
    rw [List.drop_append_of_le_length (by omega), sm_append]
    simp only [sm]
    by_cases hi1 : i < ats.length
    · rw [List.getElem?_append_left hi1] at hi
      have h1 := h.room i ai hi
      omega
    · obtain rfl : i = ats.length := by omega
      rw [List.getElem?_append_right (Nat.le_refl _), Nat.sub_self] at hi
      simp only [List.getElem?_cons_zero, Option.some.injEq] at hi
      subst hi
      rw [← hl, List.drop_length, Int.sub_self, Int.mul_zero]
      simp only [sm]
      omega
theorem Bk.Ok.fill_t {x : Bk} (hx : x.Ok) {m : Int} (hm : x.a ≤ m) : (x.fill m).t ≤ x.t + x.r * (m - x.a) ∧ (x.fill m).a = m ∧ (x.fill m).r = x.r ∧ (x.fill m).b = x.b := by
  have h0 := Int.mul_nonneg hx.r0 (show 0 ≤ m - x.a by omega)
  unfold Bk.fill
  split
  · refine ⟨?_, rfl, rfl, rfl⟩
    dsimp only
    unfold cut plus times
    generalize x.r * (m - x.a) = q at *
    split <;> split <;> split <;> omega
  · exact ⟨by omega, by omega, rfl, rfl⟩
/-- The sum that stays at the greatest number is no more than the most. -/
theorem most_ge {s b r d : Int} (hb : 0 ≤ b) (hd : 0 ≤ r * d) (hs : s ≤ b + r * d) (hs' : s ≤ top) : s ≤ plus b (times r d) := by
  unfold plus times
  generalize r * d = q at *
  split <;> split <;> omega
/-- A number that stays at the greatest one. -/
def sat (q : Int) : Int := if q ≤ top then q else top
theorem sat_add {q t : Int} (hq : 0 ≤ q) (ht : 0 ≤ t) : sat q + (if top - sat q < t then top - sat q else t) = sat (q + t) := by
  unfold sat; split <;> split <;> split <;> omega
theorem sat_nonneg {q : Int} (hq : 0 ≤ q) : 0 ≤ sat q := by unfold sat top; split <;> omega
theorem sat_le (q : Int) : sat q ≤ top := by unfold sat; split <;> omega
theorem sat_self (q : Int) : sat q ≤ q := by unfold sat; split <;> omega
theorem sm_step {tks : List Int} {i k : Nat} {t : Int} (hik : i ≤ k) (ht : tks[k]? = some t) : sm ((tks.drop i).take (k + 1 - i)) = sm ((tks.drop i).take (k - i)) + t := by
  rw [show k + 1 - i = (k - i) + 1 by omega, List.take_add_one, sm_append, List.getElem?_drop, show i + (k - i) = k by omega, ht]
  simp [sm]
end Go.Proofs.Ytjjbkpfknihkbaa.X
