/-
  The clocks, middles and units of the report layer are the reference's, for every two 64-bit numbers; no condition.
-/
import Derived.Test.YtogilblilljpmaaPReportClocksx1
namespace Go.Proofs.Ytogilblilljpmaa.Pure
open Go.RowKit Go.Proofs.Ytogilblilljpmaa.PReportClocks Go.Proofs.YtogilblilljpmaaW.PrintWords Go.Proofs.YtogilblilljpmaaW.PrintLast

theorem wrapu (n : Int) : IntKind.u64.wrap n = n % 18446744073709551616 := by simp [IntKind.wrap, IntKind.bits, IntKind.signed]
theorem wrapsu (n : Int) (h₀ : 0 ≤ n) (h₁ : n < 2 ^ 64) : IntKind.u64.wrap n = n := by rw [wrapu]; omega

theorem joined (x y : Int) (hx0 : 0 ≤ x) (hx : x % 4294967296 = 0) (hx1 : x < 18446744073709551616) (h0 : 0 ≤ y) (h1 : y < 4294967296) : bits .or .u64 x y = x + y :=
  bits_join .u64 64 (by decide) wrapsu 32 x y hx0 (by simpa using hx) (by simpa using hx1) h0 (by simpa using h1) (by omega)

theorem ntp (a : Int) (h0 : 0 ≤ a) (h1 : a < 18446744073709551616) :
    report_Ntp.f a = some ((a / 1000 * 4294967296) % 18446744073709551616 + a % 1000 * 4294967296 / 1000) := by
  unfold report_Ntp.f
  have e1 : Int.tdiv a 1000 = a / 1000 := Int.tdiv_eq_ediv_of_nonneg h0
  have e2 : Int.tmod a 1000 = a % 1000 := Int.tmod_eq_emod_of_nonneg h0
  rw [e1, e2, wrapsu (a / 1000) (by omega) (by omega), wrapsu (a % 1000 * 4294967296) (by omega) (by omega)]
  rw [Int.tdiv_eq_ediv_of_nonneg (by omega), wrapsu (a % 1000 * 4294967296 / 1000) (by omega) (by omega), wrapu]
  rw [joined _ _ (by omega) (by omega) (by omega) (by omega) (by omega)]

theorem ntpR (a : Int) (h0 : 0 ≤ a) (h1 : a < 18446744073709551616) :
    easelref24_Ntp.f a = some ((a / 1000 * 4294967296) % 18446744073709551616 + a % 1000 * 4294967296 / 1000) := by
  unfold easelref24_Ntp.f
  have e1 : Int.tdiv a 1000 = a / 1000 := Int.tdiv_eq_ediv_of_nonneg h0
  have e2 : Int.tmod a 1000 = a % 1000 := Int.tmod_eq_emod_of_nonneg h0
  rw [e1, e2, wrapsu (a / 1000) (by omega) (by omega), wrapsu (a % 1000 * 4294967296) (by omega) (by omega)]
  rw [Int.tdiv_eq_ediv_of_nonneg (by omega), wrapsu (a % 1000 * 4294967296 / 1000) (by omega) (by omega), wrapu, wrapu]
  congr 1
  omega

theorem small (t : Int) (h0 : 0 ≤ t) (h1 : t < 4294967296000) : report_Ntp.f t = some (t * 4294967296 / 1000) := by
  rw [ntp t h0 (by omega)]
  congr 1
  have : (t / 1000 * 4294967296) % 18446744073709551616 = t / 1000 * 4294967296 := Int.emod_eq_of_lt (by omega) (by omega)
  rw [this]
  omega

theorem range (a : Int) (ha : (Lit.int .u64 a).wf = true) : 0 ≤ a ∧ a < 18446744073709551616 := by
  have h : IntKind.u64.min ≤ a ∧ a ≤ IntKind.u64.max := by simpa [Lit.wf] using ha
  have e1 : IntKind.u64.min = 0 := rfl
  have e2 : IntKind.u64.max = 18446744073709551615 := rfl
  omega

theorem middle (a : Int) (h0 : 0 ≤ a) (h1 : a < 18446744073709551616) : easelref24_Middle.f a = report_Middle.f a := by
  unfold easelref24_Middle.f report_Middle.f
  rw [Int.tdiv_eq_ediv_of_nonneg h0, wrapsu _ (by omega) (by omega), Int.tmod_eq_emod_of_nonneg (by omega)]
  congr 1
  omega

theorem units (a : Int) : easelref24_Units.f a = report_Units.f a := rfl

theorem works : easellaw24_works.f = some true := by decide +kernel

theorem middle_some (a : Int) : ∃ m, report_Middle.f a = some m := ⟨_, rfl⟩
theorem units_some (a : Int) : ∃ m, report_Units.f a = some m := by
  unfold report_Units.f
  split <;> exact ⟨_, rfl⟩

/-- YOURS: ∀ (a0 : Int) (a1 : Int), (Lit.int .u64 a0).wf = true → (Lit.int .u64 a1).wf = true → ∃ k, easellaw24_ReportClocks.f k a0 a1 = some true
What it reaches (each with k first where it has rounds; `.mono`: more rounds tell the same; `.l0`, ..: its loops, with `.mono_l`): report_Ntp.f, easelref24_Ntp.f, report_Middle.f, easelref24_Middle.f, report_Units.f, easelref24_Units.f, easellaw24_works.f, easellaw24_ReportClocks.f -/
theorem ReportClocks : easellaw24_ReportClocks.Pure := by
  intro a b ha hb
  have ha' := range a ha
  have hb' := range b hb
  obtain ⟨a0, a1⟩ := ha'
  obtain ⟨b0, b1⟩ := hb'
  clear ha hb
  refine ⟨1, ?_⟩
  unfold easellaw24_ReportClocks.f
  have n1 := ntp a a0 a1
  have n2 := ntpR a a0 a1
  rw [n1, n2]
  simp only [Option.bind_some]
  generalize hn : (a / 1000 * 4294967296) % 18446744073709551616 + a % 1000 * 4294967296 / 1000 = n
  have hn0 : 0 ≤ n ∧ n < 18446744073709551616 := by omega
  obtain ⟨m1, e1⟩ := middle_some n
  obtain ⟨m2, e2⟩ := middle_some b
  obtain ⟨u1, e3⟩ := units_some a
  obtain ⟨u2, e4⟩ := units_some b
  rw [middle n hn0.1 hn0.2, middle b b0 b1, units, units, e1, e2, e3, e4]
  simp only [Option.bind_some, if_true, bne_self_eq_false]
  unfold easellaw24_ReportClocks.j0
  simp only [Bool.false_eq_true, if_false]
  rw [Int.tmod_eq_emod_of_nonneg a0, Int.tmod_eq_emod_of_nonneg b0]
  rw [wrapsu (a % 2199023255552 + b % 1099511627776) (by omega) (by omega), wrapsu (a % 2199023255552 + 1000) (by omega) (by omega)]
  generalize ht : a % 2199023255552 = t
  generalize hs : b % 1099511627776 = s
  have t0 : 0 ≤ t ∧ t < 2199023255552 := by omega
  have s0 : 0 ≤ s ∧ s < 1099511627776 := by omega
  clear ht hs n1 n2 hn hn0 e1 e2 e3 e4
  rw [small _ (by omega) (by omega), small _ (by omega) (by omega), small _ (by omega) (by omega)]
  simp only [Option.bind_some]
  rw [if_pos (by omega), wrapu, if_pos (by have e : (t + 1000) * 4294967296 / 1000 = t * 4294967296 / 1000 + 4294967296 := (by omega); rw [e]; omega), works]
  rfl

end Go.Proofs.Ytogilblilljpmaa.Pure
