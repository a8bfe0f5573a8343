-- PRINTED BY print.sh 35421559b90ae4d0a3588c463048766b98c2df88dd9212a6774a882060cdf62d: not written by this session
import Derived.Test.YtogilblilljpmaaPReportClocksx0
namespace Go.Proofs.Ytogilblilljpmaa.PReportClocks
open Go.RowKit Go.Proofs.YtogilblilljpmaaW.PrintWords Go.Proofs.YtogilblilljpmaaW.PrintLast Go.Proofs.YtogilblilljpmaaW.PrintMore
attribute [local go_sem] max2_int min2_int max_two min_two max_three min_three max_four min_four   -- for this text's walks alone
set_option linter.unusedVariables false
set_option linter.unusedSimpArgs false

/-! ### report_Ntp: function 8 -/
def report_Ntp.f (a0 : Int) : Option (Int) := some (Go.bits .or .u64 (IntKind.u64.wrap ((IntKind.u64.wrap (Int.tdiv a0 1000)) * 4294967296)) (IntKind.u64.wrap (Int.tdiv (IntKind.u64.wrap ((Int.tmod a0 1000) * 4294967296)) 1000)))
set_option maxHeartbeats 8000000 in
set_option maxRecDepth 100000 in
theorem report_Ntp.calls (a0 : Int) (r : Int) (w : World) (h : report_Ntp.f a0 = some r) :
    Calls Try.prog 8 #[.int .u64 a0] w fun e w' => e = .returned (.int .u64 r) ∧ Drawn0 w w' := by
  have H : (some (Go.bits .or .u64 (IntKind.u64.wrap ((IntKind.u64.wrap (Int.tdiv a0 1000)) * 4294967296)) (IntKind.u64.wrap (Int.tdiv (IntKind.u64.wrap ((Int.tmod a0 1000) * 4294967296)) 1000)))) = some r := h
  clear h
  obtain rfl := Option.some.inj H
  go_enter Try.func8, Try.ntmps8
  go_wp2
  go_ret
  exact ⟨by first | rfl | (simp; done) | (simp [*]; done), by repeat (first | exact Drawn0.refl _ | apply Drawn0.step)⟩

/-! ### easelref24_Ntp: function 9 -/
def easelref24_Ntp.f (a0 : Int) : Option (Int) := some (IntKind.u64.wrap ((IntKind.u64.wrap ((IntKind.u64.wrap (Int.tdiv a0 1000)) * 4294967296)) + (IntKind.u64.wrap (Int.tdiv (IntKind.u64.wrap ((Int.tmod a0 1000) * 4294967296)) 1000))))
set_option maxHeartbeats 8000000 in
set_option maxRecDepth 100000 in
theorem easelref24_Ntp.calls (a0 : Int) (r : Int) (w : World) (h : easelref24_Ntp.f a0 = some r) :
    Calls Try.prog 9 #[.int .u64 a0] w fun e w' => e = .returned (.int .u64 r) ∧ Drawn0 w w' := by
  have H : (some (IntKind.u64.wrap ((IntKind.u64.wrap ((IntKind.u64.wrap (Int.tdiv a0 1000)) * 4294967296)) + (IntKind.u64.wrap (Int.tdiv (IntKind.u64.wrap ((Int.tmod a0 1000) * 4294967296)) 1000))))) = some r := h
  clear h
  obtain rfl := Option.some.inj H
  go_enter Try.func9, Try.ntmps9
  go_wp2
  go_ret
  exact ⟨by first | rfl | (simp; done) | (simp [*]; done), by repeat (first | exact Drawn0.refl _ | apply Drawn0.step)⟩

/-! ### report_Middle: function 10 -/
def report_Middle.f (a0 : Int) : Option (Int) := some ((a0 / 65536) % 4294967296)
set_option maxHeartbeats 8000000 in
set_option maxRecDepth 100000 in
theorem report_Middle.calls (a0 : Int) (r : Int) (w : World) (h : report_Middle.f a0 = some r) :
    Calls Try.prog 10 #[.int .u64 a0] w fun e w' => e = .returned (.int .u32 r) ∧ Drawn0 w w' := by
  have H : (some ((a0 / 65536) % 4294967296)) = some r := h
  clear h
  obtain rfl := Option.some.inj H
  go_enter Try.func10, Try.ntmps10
  go_wp2
  go_ret
  exact ⟨by first | rfl | (simp; done) | (simp [*]; done), by repeat (first | exact Drawn0.refl _ | apply Drawn0.step)⟩

/-! ### easelref24_Middle: function 11 -/
def easelref24_Middle.f (a0 : Int) : Option (Int) := some ((Int.tmod (IntKind.u64.wrap (Int.tdiv a0 65536)) 4294967296) % 4294967296)
set_option maxHeartbeats 8000000 in
set_option maxRecDepth 100000 in
theorem easelref24_Middle.calls (a0 : Int) (r : Int) (w : World) (h : easelref24_Middle.f a0 = some r) :
    Calls Try.prog 11 #[.int .u64 a0] w fun e w' => e = .returned (.int .u32 r) ∧ Drawn0 w w' := by
  have H : (some ((Int.tmod (IntKind.u64.wrap (Int.tdiv a0 65536)) 4294967296) % 4294967296)) = some r := h
  clear h
  obtain rfl := Option.some.inj H
  go_enter Try.func11, Try.ntmps11
  go_wp2
  go_ret
  exact ⟨by first | rfl | (simp; done) | (simp [*]; done), by repeat (first | exact Drawn0.refl _ | apply Drawn0.step)⟩

/-! ### report_Units: function 12 -/
def report_Units.f (a0 : Int) : Option (Int) := if (IntKind.u64.wrap (Int.tdiv a0 1000)) ≥ 65536 then (some 4294967295) else (some ((IntKind.u64.wrap (Int.tdiv (IntKind.u64.wrap (a0 * 65536)) 1000)) % 4294967296))
set_option maxHeartbeats 8000000 in
set_option maxRecDepth 100000 in
theorem report_Units.calls (a0 : Int) (r : Int) (w : World) (h : report_Units.f a0 = some r) :
    Calls Try.prog 12 #[.int .u64 a0] w fun e w' => e = .returned (.int .u32 r) ∧ Drawn0 w w' := by
  have H : (if (IntKind.u64.wrap (Int.tdiv a0 1000)) ≥ 65536 then (some 4294967295) else (some ((IntKind.u64.wrap (Int.tdiv (IntKind.u64.wrap (a0 * 65536)) 1000)) % 4294967296))) = some r := h
  clear h
  by_cases c2 : (IntKind.u64.wrap (Int.tdiv a0 1000)) ≥ 65536
  · rw [if_pos c2] at H
    have c2b0 : decide (65536 ≤ (IntKind.u64.wrap (Int.tdiv a0 1000))) = true := decide_eq_true c2
    clear c2
    obtain rfl := Option.some.inj H
    go_enter Try.func12, Try.ntmps12
    go_wp2
    go_ret
    exact ⟨by first | rfl | (simp; done) | (simp [*]; done), by repeat (first | exact Drawn0.refl _ | apply Drawn0.step)⟩
  · rw [if_neg c2] at H
    have c2b0 : decide (65536 ≤ (IntKind.u64.wrap (Int.tdiv a0 1000))) = false := decide_eq_false c2
    clear c2
    obtain rfl := Option.some.inj H
    go_enter Try.func12, Try.ntmps12
    go_wp2
    go_ret
    exact ⟨by first | rfl | (simp; done) | (simp [*]; done), by repeat (first | exact Drawn0.refl _ | apply Drawn0.step)⟩

/-! ### easelref24_Units: function 13 -/
def easelref24_Units.f (a0 : Int) : Option (Int) := if (IntKind.u64.wrap (Int.tdiv a0 1000)) ≥ 65536 then (some 4294967295) else (some ((IntKind.u64.wrap (Int.tdiv (IntKind.u64.wrap (a0 * 65536)) 1000)) % 4294967296))
set_option maxHeartbeats 8000000 in
set_option maxRecDepth 100000 in
theorem easelref24_Units.calls (a0 : Int) (r : Int) (w : World) (h : easelref24_Units.f a0 = some r) :
    Calls Try.prog 13 #[.int .u64 a0] w fun e w' => e = .returned (.int .u32 r) ∧ Drawn0 w w' := by
  have H : (if (IntKind.u64.wrap (Int.tdiv a0 1000)) ≥ 65536 then (some 4294967295) else (some ((IntKind.u64.wrap (Int.tdiv (IntKind.u64.wrap (a0 * 65536)) 1000)) % 4294967296))) = some r := h
  clear h
  by_cases c2 : (IntKind.u64.wrap (Int.tdiv a0 1000)) ≥ 65536
  · rw [if_pos c2] at H
    have c2b0 : decide (65536 ≤ (IntKind.u64.wrap (Int.tdiv a0 1000))) = true := decide_eq_true c2
    clear c2
    obtain rfl := Option.some.inj H
    go_enter Try.func13, Try.ntmps13
    go_wp2
    go_ret
    exact ⟨by first | rfl | (simp; done) | (simp [*]; done), by repeat (first | exact Drawn0.refl _ | apply Drawn0.step)⟩
  · rw [if_neg c2] at H
    have c2b0 : decide (65536 ≤ (IntKind.u64.wrap (Int.tdiv a0 1000))) = false := decide_eq_false c2
    clear c2
    obtain rfl := Option.some.inj H
    go_enter Try.func13, Try.ntmps13
    go_wp2
    go_ret
    exact ⟨by first | rfl | (simp; done) | (simp [*]; done), by repeat (first | exact Drawn0.refl _ | apply Drawn0.step)⟩

/-! ### easellaw24_works: function 14 -/
def easellaw24_works.f  : Option (Bool) := (report_Ntp.f 1500).bind fun t101 => (if t101 = 6442450944 then ((report_Middle.f t101).bind fun t102 => (if t102 = 98304 then ((report_Units.f 500).bind fun t103 => (if t103 = 32768 then ((report_Units.f 1).bind fun t104 => (if t104 = 65 then ((report_Units.f 1099511627776).bind fun t105 => (some (t105 == 4294967295))) else (some false))) else (some false))) else (some false))) else (some false))
set_option maxHeartbeats 8000000 in
set_option maxRecDepth 100000 in
theorem easellaw24_works.calls  (r : Bool) (w : World) (h : easellaw24_works.f  = some r) :
    Calls Try.prog 14 #[] w fun e w' => e = .returned (.bool r) ∧ Drawn0 w w' := by
  have H : ((report_Ntp.f 1500).bind fun t101 => (if t101 = 6442450944 then ((report_Middle.f t101).bind fun t102 => (if t102 = 98304 then ((report_Units.f 500).bind fun t103 => (if t103 = 32768 then ((report_Units.f 1).bind fun t104 => (if t104 = 65 then ((report_Units.f 1099511627776).bind fun t105 => (some (t105 == 4294967295))) else (some false))) else (some false))) else (some false))) else (some false))) = some r := h
  clear h
  replace H := Option.bind_eq_some_iff.mp H
  obtain ⟨t101, A10, H⟩ := H
  replace H : (if t101 = 6442450944 then ((report_Middle.f t101).bind fun t102 => (if t102 = 98304 then ((report_Units.f 500).bind fun t103 => (if t103 = 32768 then ((report_Units.f 1).bind fun t104 => (if t104 = 65 then ((report_Units.f 1099511627776).bind fun t105 => (some (t105 == 4294967295))) else (some false))) else (some false))) else (some false))) else (some false)) = some r := H
  have A1 := Aside0.mk A10
  clear A10
  by_cases c2 : t101 = 6442450944
  · rw [if_pos c2] at H
    have c2b0 : (t101 == 6442450944) = true := beq_iff_eq.mpr c2
    have c2b1 : (t101 != 6442450944) = false := bne_eq_false_iff_eq.mpr c2
    clear c2
    replace H := Option.bind_eq_some_iff.mp H
    obtain ⟨t102, A30, H⟩ := H
    replace H : (if t102 = 98304 then ((report_Units.f 500).bind fun t103 => (if t103 = 32768 then ((report_Units.f 1).bind fun t104 => (if t104 = 65 then ((report_Units.f 1099511627776).bind fun t105 => (some (t105 == 4294967295))) else (some false))) else (some false))) else (some false)) = some r := H
    have A3 := Aside0.mk A30
    clear A30
    by_cases c4 : t102 = 98304
    · rw [if_pos c4] at H
      have c4b0 : (t102 == 98304) = true := beq_iff_eq.mpr c4
      have c4b1 : (t102 != 98304) = false := bne_eq_false_iff_eq.mpr c4
      clear c4
      replace H := Option.bind_eq_some_iff.mp H
      obtain ⟨t103, A50, H⟩ := H
      replace H : (if t103 = 32768 then ((report_Units.f 1).bind fun t104 => (if t104 = 65 then ((report_Units.f 1099511627776).bind fun t105 => (some (t105 == 4294967295))) else (some false))) else (some false)) = some r := H
      have A5 := Aside0.mk A50
      clear A50
      by_cases c6 : t103 = 32768
      · rw [if_pos c6] at H
        have c6b0 : (t103 == 32768) = true := beq_iff_eq.mpr c6
        have c6b1 : (t103 != 32768) = false := bne_eq_false_iff_eq.mpr c6
        clear c6
        replace H := Option.bind_eq_some_iff.mp H
        obtain ⟨t104, A70, H⟩ := H
        replace H : (if t104 = 65 then ((report_Units.f 1099511627776).bind fun t105 => (some (t105 == 4294967295))) else (some false)) = some r := H
        have A7 := Aside0.mk A70
        clear A70
        by_cases c8 : t104 = 65
        · rw [if_pos c8] at H
          have c8b0 : (t104 == 65) = true := beq_iff_eq.mpr c8
          have c8b1 : (t104 != 65) = false := bne_eq_false_iff_eq.mpr c8
          clear c8
          replace H := Option.bind_eq_some_iff.mp H
          obtain ⟨t105, A90, H⟩ := H
          replace H : (some (t105 == 4294967295)) = some r := H
          have A9 := Aside0.mk A90
          clear A90
          obtain rfl := Option.some.inj H
          go_enter Try.func14, Try.ntmps14
          go_wp2_with (first | ((with_reducible refine gate_callee (f := 8) rfl ?_); refine goesL_ (some 2) rfl rfl Try.func8 (by kernel_rfl) rfl #[.int .u64 1500] rfl (by (try simp only [List.map_toArray, List.map_cons, List.map_nil]); first | done | rfl | (simp only [List.length_drop, List.length_take]; rfl)) ?_; (with_reducible refine (report_Ntp.calls 1500 t101 _ A1.out).mono ?_); rintro e w' ⟨rfl, ⟨nd, rfl⟩⟩; refine ⟨_, rfl, ?_⟩) | (go_at_call 10; (with_reducible refine (report_Middle.calls t101 t102 _ A3.out).mono ?_); rintro e w' ⟨rfl, ⟨nd, rfl⟩⟩) | (go_at_call 12; (with_reducible refine (report_Units.calls 500 t103 _ A5.out).mono ?_); rintro e w' ⟨rfl, ⟨nd, rfl⟩⟩) | (go_at_call 12; (with_reducible refine (report_Units.calls 1 t104 _ A7.out).mono ?_); rintro e w' ⟨rfl, ⟨nd, rfl⟩⟩) | (go_at_call 12; (with_reducible refine (report_Units.calls 1099511627776 t105 _ A9.out).mono ?_); rintro e w' ⟨rfl, ⟨nd, rfl⟩⟩))
          go_ret
          exact ⟨by first | rfl | (simp; done) | (simp [*]; done), by repeat (first | exact Drawn0.refl _ | apply Drawn0.step)⟩
        · rw [if_neg c8] at H
          have c8b0 : (t104 == 65) = false := beq_eq_false_iff_ne.mpr c8
          have c8b1 : (t104 != 65) = true := bne_iff_ne.mpr c8
          obtain rfl := Option.some.inj H
          go_enter Try.func14, Try.ntmps14
          go_wp2_with (first | ((with_reducible refine gate_callee (f := 8) rfl ?_); refine goesL_ (some 2) rfl rfl Try.func8 (by kernel_rfl) rfl #[.int .u64 1500] rfl (by (try simp only [List.map_toArray, List.map_cons, List.map_nil]); first | done | rfl | (simp only [List.length_drop, List.length_take]; rfl)) ?_; (with_reducible refine (report_Ntp.calls 1500 t101 _ A1.out).mono ?_); rintro e w' ⟨rfl, ⟨nd, rfl⟩⟩; refine ⟨_, rfl, ?_⟩) | (go_at_call 10; (with_reducible refine (report_Middle.calls t101 t102 _ A3.out).mono ?_); rintro e w' ⟨rfl, ⟨nd, rfl⟩⟩) | (go_at_call 12; (with_reducible refine (report_Units.calls 500 t103 _ A5.out).mono ?_); rintro e w' ⟨rfl, ⟨nd, rfl⟩⟩) | (go_at_call 12; (with_reducible refine (report_Units.calls 1 t104 _ A7.out).mono ?_); rintro e w' ⟨rfl, ⟨nd, rfl⟩⟩))
          go_ret
          exact ⟨by first | rfl | (simp; done) | (simp [*]; done), by repeat (first | exact Drawn0.refl _ | apply Drawn0.step)⟩
      · rw [if_neg c6] at H
        have c6b0 : (t103 == 32768) = false := beq_eq_false_iff_ne.mpr c6
        have c6b1 : (t103 != 32768) = true := bne_iff_ne.mpr c6
        obtain rfl := Option.some.inj H
        go_enter Try.func14, Try.ntmps14
        go_wp2_with (first | ((with_reducible refine gate_callee (f := 8) rfl ?_); refine goesL_ (some 2) rfl rfl Try.func8 (by kernel_rfl) rfl #[.int .u64 1500] rfl (by (try simp only [List.map_toArray, List.map_cons, List.map_nil]); first | done | rfl | (simp only [List.length_drop, List.length_take]; rfl)) ?_; (with_reducible refine (report_Ntp.calls 1500 t101 _ A1.out).mono ?_); rintro e w' ⟨rfl, ⟨nd, rfl⟩⟩; refine ⟨_, rfl, ?_⟩) | (go_at_call 10; (with_reducible refine (report_Middle.calls t101 t102 _ A3.out).mono ?_); rintro e w' ⟨rfl, ⟨nd, rfl⟩⟩) | (go_at_call 12; (with_reducible refine (report_Units.calls 500 t103 _ A5.out).mono ?_); rintro e w' ⟨rfl, ⟨nd, rfl⟩⟩))
        go_ret
        exact ⟨by first | rfl | (simp; done) | (simp [*]; done), by repeat (first | exact Drawn0.refl _ | apply Drawn0.step)⟩
    · rw [if_neg c4] at H
      have c4b0 : (t102 == 98304) = false := beq_eq_false_iff_ne.mpr c4
      have c4b1 : (t102 != 98304) = true := bne_iff_ne.mpr c4
      obtain rfl := Option.some.inj H
      go_enter Try.func14, Try.ntmps14
      go_wp2_with (first | ((with_reducible refine gate_callee (f := 8) rfl ?_); refine goesL_ (some 2) rfl rfl Try.func8 (by kernel_rfl) rfl #[.int .u64 1500] rfl (by (try simp only [List.map_toArray, List.map_cons, List.map_nil]); first | done | rfl | (simp only [List.length_drop, List.length_take]; rfl)) ?_; (with_reducible refine (report_Ntp.calls 1500 t101 _ A1.out).mono ?_); rintro e w' ⟨rfl, ⟨nd, rfl⟩⟩; refine ⟨_, rfl, ?_⟩) | (go_at_call 10; (with_reducible refine (report_Middle.calls t101 t102 _ A3.out).mono ?_); rintro e w' ⟨rfl, ⟨nd, rfl⟩⟩))
      go_ret
      exact ⟨by first | rfl | (simp; done) | (simp [*]; done), by repeat (first | exact Drawn0.refl _ | apply Drawn0.step)⟩
  · rw [if_neg c2] at H
    have c2b0 : (t101 == 6442450944) = false := beq_eq_false_iff_ne.mpr c2
    have c2b1 : (t101 != 6442450944) = true := bne_iff_ne.mpr c2
    obtain rfl := Option.some.inj H
    go_enter Try.func14, Try.ntmps14
    go_wp2_with (first | ((with_reducible refine gate_callee (f := 8) rfl ?_); refine goesL_ (some 2) rfl rfl Try.func8 (by kernel_rfl) rfl #[.int .u64 1500] rfl (by (try simp only [List.map_toArray, List.map_cons, List.map_nil]); first | done | rfl | (simp only [List.length_drop, List.length_take]; rfl)) ?_; (with_reducible refine (report_Ntp.calls 1500 t101 _ A1.out).mono ?_); rintro e w' ⟨rfl, ⟨nd, rfl⟩⟩; refine ⟨_, rfl, ?_⟩))
    go_ret
    exact ⟨by first | rfl | (simp; done) | (simp [*]; done), by repeat (first | exact Drawn0.refl _ | apply Drawn0.step)⟩

/-! ### easellaw24_ReportClocks: function 3 -/
def easellaw24_ReportClocks.j0 : Nat → Int → Int → Bool → Option (Bool)
  | 0, _, _, _ => none
  | k + 1, x0, x1, x41 => if x41 = true then (some false) else ((report_Ntp.f (IntKind.u64.wrap ((Int.tmod x0 2199023255552) + (Int.tmod x1 1099511627776)))).bind fun t116 => ((report_Ntp.f (Int.tmod x0 2199023255552)).bind fun t117 => (if t116 ≥ t117 then ((report_Ntp.f (IntKind.u64.wrap ((Int.tmod x0 2199023255552) + 1000))).bind fun t118 => ((report_Ntp.f (Int.tmod x0 2199023255552)).bind fun t119 => (if (IntKind.u64.wrap (t118 - t119)) = 4294967296 then ((easellaw24_works.f).bind fun t120 => (some t120)) else (some false)))) else (some false))))
def easellaw24_ReportClocks.f (k : Nat) (a0 : Int) (a1 : Int) : Option (Bool) := (report_Ntp.f a0).bind fun t106 => ((easelref24_Ntp.f a0).bind fun t107 => (if t106 = t107 then ((report_Middle.f t106).bind fun t108 => ((easelref24_Middle.f t106).bind fun t109 => (if t108 = t109 then ((report_Middle.f a1).bind fun t110 => ((easelref24_Middle.f a1).bind fun t111 => (if t110 = t111 then ((report_Units.f a0).bind fun t112 => ((easelref24_Units.f a0).bind fun t113 => (if t112 = t113 then ((report_Units.f a1).bind fun t114 => ((easelref24_Units.f a1).bind fun t115 => (easellaw24_ReportClocks.j0 k a0 a1 (t114 != t115)))) else (easellaw24_ReportClocks.j0 k a0 a1 true)))) else (easellaw24_ReportClocks.j0 k a0 a1 true)))) else (easellaw24_ReportClocks.j0 k a0 a1 true)))) else (easellaw24_ReportClocks.j0 k a0 a1 true)))
theorem easellaw24_ReportClocks.mono_l : ∀ k, (∀ y0 y1 y2, LeO (easellaw24_ReportClocks.j0 k y0 y1 y2) (easellaw24_ReportClocks.j0 (k + 1) y0 y1 y2))
  | 0 => fun _ _ _ r h => by simp [easellaw24_ReportClocks.j0] at h
  | k + 1 => by
    have ih0 := easellaw24_ReportClocks.mono_l k
    · intro y0 y1 y2
      unfold easellaw24_ReportClocks.j0
      repeat' first
      | (with_reducible exact ih0 _ _ _)
      | (with_reducible exact LeO.refl _)
      | (with_reducible exact LeO.none _)
      | (with_reducible refine LeO.ite ?_ ?_)
      | (with_reducible refine LeO.bind ?_ (fun _ => ?_))
      | exact ih0 _ _ _
      | exact LeO.none _
      | refine LeO.ite ?_ ?_
      | refine LeO.bind ?_ (fun _ => ?_)
theorem easellaw24_ReportClocks.mono : ∀ a0 a1 k, LeO (easellaw24_ReportClocks.f k a0 a1) (easellaw24_ReportClocks.f (k + 1) a0 a1) := by
  intro a0 a1 k
  have ih0 := easellaw24_ReportClocks.mono_l k
  unfold easellaw24_ReportClocks.f
  repeat' first
      | (with_reducible exact ih0 _ _ _)
      | (with_reducible exact LeO.refl _)
      | (with_reducible exact LeO.none _)
      | (with_reducible refine LeO.ite ?_ ?_)
      | (with_reducible refine LeO.bind ?_ (fun _ => ?_))
      | exact ih0 _ _ _
      | exact LeO.none _
      | refine LeO.ite ?_ ?_
      | refine LeO.bind ?_ (fun _ => ?_)
set_option maxHeartbeats 8000000 in
set_option maxRecDepth 100000 in
theorem easellaw24_ReportClocks.calls (k : Nat) (a0 : Int) (a1 : Int) (r : Bool) (w : World) (h : easellaw24_ReportClocks.f k a0 a1 = some r) :
    Calls Try.prog 3 #[.int .u64 a0, .int .u64 a1] w fun e w' => e = .returned (.bool r) ∧ Drawn0 w w' := by
  have H : ((report_Ntp.f a0).bind fun t106 => ((easelref24_Ntp.f a0).bind fun t107 => (if t106 = t107 then ((report_Middle.f t106).bind fun t108 => ((easelref24_Middle.f t106).bind fun t109 => (if t108 = t109 then ((report_Middle.f a1).bind fun t110 => ((easelref24_Middle.f a1).bind fun t111 => (if t110 = t111 then ((report_Units.f a0).bind fun t112 => ((easelref24_Units.f a0).bind fun t113 => (if t112 = t113 then ((report_Units.f a1).bind fun t114 => ((easelref24_Units.f a1).bind fun t115 => (easellaw24_ReportClocks.j0 k a0 a1 (t114 != t115)))) else (easellaw24_ReportClocks.j0 k a0 a1 true)))) else (easellaw24_ReportClocks.j0 k a0 a1 true)))) else (easellaw24_ReportClocks.j0 k a0 a1 true)))) else (easellaw24_ReportClocks.j0 k a0 a1 true)))) = some r := h
  clear h
  replace H := Option.bind_eq_some_iff.mp H
  obtain ⟨t106, A30, H⟩ := H
  replace H : ((easelref24_Ntp.f a0).bind fun t107 => (if t106 = t107 then ((report_Middle.f t106).bind fun t108 => ((easelref24_Middle.f t106).bind fun t109 => (if t108 = t109 then ((report_Middle.f a1).bind fun t110 => ((easelref24_Middle.f a1).bind fun t111 => (if t110 = t111 then ((report_Units.f a0).bind fun t112 => ((easelref24_Units.f a0).bind fun t113 => (if t112 = t113 then ((report_Units.f a1).bind fun t114 => ((easelref24_Units.f a1).bind fun t115 => (easellaw24_ReportClocks.j0 k a0 a1 (t114 != t115)))) else (easellaw24_ReportClocks.j0 k a0 a1 true)))) else (easellaw24_ReportClocks.j0 k a0 a1 true)))) else (easellaw24_ReportClocks.j0 k a0 a1 true)))) else (easellaw24_ReportClocks.j0 k a0 a1 true))) = some r := H
  have A3 := Aside0.mk A30
  clear A30
  have HC4 := Aside0.mk H
  clear H
  go_enter Try.func3, Try.ntmps3
  go_upto_region 2 with (first | ((with_reducible refine gate_callee (f := 8) rfl ?_); refine goesL_ (some 9) rfl rfl Try.func8 (by kernel_rfl) rfl #[.int .u64 a0] rfl (by (try simp only [List.map_toArray, List.map_cons, List.map_nil]); first | done | rfl | (simp only [List.length_drop, List.length_take]; rfl)) ?_; (with_reducible refine (report_Ntp.calls a0 t106 _ A3.out).mono ?_); rintro e w' ⟨rfl, ⟨nd, rfl⟩⟩; refine ⟨_, rfl, ?_⟩))
  (try simp only [Act.put, List.setIfInBounds_toArray, List.set_cons_zero, List.set_cons_succ])
  go_cut [41] (fun v41 wc => ∃ (kq : Nat) (x41_3 : Bool), v41 = .bool x41_3 ∧ Aside0 (easellaw24_ReportClocks.j0 kq a0 a1 x41_3 = some r) ∧ Aside0 (kq ≤ k) ∧ Drawn0 w wc)
  case first =>
    have H := HC4.out
    clear HC4
    replace H := Option.bind_eq_some_iff.mp H
    obtain ⟨t107, A50, H⟩ := H
    replace H : (if t106 = t107 then ((report_Middle.f t106).bind fun t108 => ((easelref24_Middle.f t106).bind fun t109 => (if t108 = t109 then ((report_Middle.f a1).bind fun t110 => ((easelref24_Middle.f a1).bind fun t111 => (if t110 = t111 then ((report_Units.f a0).bind fun t112 => ((easelref24_Units.f a0).bind fun t113 => (if t112 = t113 then ((report_Units.f a1).bind fun t114 => ((easelref24_Units.f a1).bind fun t115 => (easellaw24_ReportClocks.j0 k a0 a1 (t114 != t115)))) else (easellaw24_ReportClocks.j0 k a0 a1 true)))) else (easellaw24_ReportClocks.j0 k a0 a1 true)))) else (easellaw24_ReportClocks.j0 k a0 a1 true)))) else (easellaw24_ReportClocks.j0 k a0 a1 true)) = some r := H
    have A5 := Aside0.mk A50
    clear A50
    by_cases c6 : t106 = t107
    · rw [if_pos c6] at H
      have c6b0 : (t106 == t107) = true := beq_iff_eq.mpr c6
      have c6b1 : (t106 != t107) = false := bne_eq_false_iff_eq.mpr c6
      clear c6
      (first | rw [c6b0] | (simp only [i64_w, i32_w]; rw [c6b0]) | skip)
      replace H := Option.bind_eq_some_iff.mp H
      obtain ⟨t108, A70, H⟩ := H
      replace H : ((easelref24_Middle.f t106).bind fun t109 => (if t108 = t109 then ((report_Middle.f a1).bind fun t110 => ((easelref24_Middle.f a1).bind fun t111 => (if t110 = t111 then ((report_Units.f a0).bind fun t112 => ((easelref24_Units.f a0).bind fun t113 => (if t112 = t113 then ((report_Units.f a1).bind fun t114 => ((easelref24_Units.f a1).bind fun t115 => (easellaw24_ReportClocks.j0 k a0 a1 (t114 != t115)))) else (easellaw24_ReportClocks.j0 k a0 a1 true)))) else (easellaw24_ReportClocks.j0 k a0 a1 true)))) else (easellaw24_ReportClocks.j0 k a0 a1 true))) = some r := H
      have A7 := Aside0.mk A70
      clear A70
      replace H := Option.bind_eq_some_iff.mp H
      obtain ⟨t109, A80, H⟩ := H
      replace H : (if t108 = t109 then ((report_Middle.f a1).bind fun t110 => ((easelref24_Middle.f a1).bind fun t111 => (if t110 = t111 then ((report_Units.f a0).bind fun t112 => ((easelref24_Units.f a0).bind fun t113 => (if t112 = t113 then ((report_Units.f a1).bind fun t114 => ((easelref24_Units.f a1).bind fun t115 => (easellaw24_ReportClocks.j0 k a0 a1 (t114 != t115)))) else (easellaw24_ReportClocks.j0 k a0 a1 true)))) else (easellaw24_ReportClocks.j0 k a0 a1 true)))) else (easellaw24_ReportClocks.j0 k a0 a1 true)) = some r := H
      have A8 := Aside0.mk A80
      clear A80
      by_cases c9 : t108 = t109
      · rw [if_pos c9] at H
        have c9b0 : (t108 == t109) = true := beq_iff_eq.mpr c9
        have c9b1 : (t108 != t109) = false := bne_eq_false_iff_eq.mpr c9
        clear c9
        replace H := Option.bind_eq_some_iff.mp H
        obtain ⟨t110, A100, H⟩ := H
        replace H : ((easelref24_Middle.f a1).bind fun t111 => (if t110 = t111 then ((report_Units.f a0).bind fun t112 => ((easelref24_Units.f a0).bind fun t113 => (if t112 = t113 then ((report_Units.f a1).bind fun t114 => ((easelref24_Units.f a1).bind fun t115 => (easellaw24_ReportClocks.j0 k a0 a1 (t114 != t115)))) else (easellaw24_ReportClocks.j0 k a0 a1 true)))) else (easellaw24_ReportClocks.j0 k a0 a1 true))) = some r := H
        have A10 := Aside0.mk A100
        clear A100
        replace H := Option.bind_eq_some_iff.mp H
        obtain ⟨t111, A110, H⟩ := H
        replace H : (if t110 = t111 then ((report_Units.f a0).bind fun t112 => ((easelref24_Units.f a0).bind fun t113 => (if t112 = t113 then ((report_Units.f a1).bind fun t114 => ((easelref24_Units.f a1).bind fun t115 => (easellaw24_ReportClocks.j0 k a0 a1 (t114 != t115)))) else (easellaw24_ReportClocks.j0 k a0 a1 true)))) else (easellaw24_ReportClocks.j0 k a0 a1 true)) = some r := H
        have A11 := Aside0.mk A110
        clear A110
        by_cases c12 : t110 = t111
        · rw [if_pos c12] at H
          have c12b0 : (t110 == t111) = true := beq_iff_eq.mpr c12
          have c12b1 : (t110 != t111) = false := bne_eq_false_iff_eq.mpr c12
          clear c12
          replace H := Option.bind_eq_some_iff.mp H
          obtain ⟨t112, A130, H⟩ := H
          replace H : ((easelref24_Units.f a0).bind fun t113 => (if t112 = t113 then ((report_Units.f a1).bind fun t114 => ((easelref24_Units.f a1).bind fun t115 => (easellaw24_ReportClocks.j0 k a0 a1 (t114 != t115)))) else (easellaw24_ReportClocks.j0 k a0 a1 true))) = some r := H
          have A13 := Aside0.mk A130
          clear A130
          replace H := Option.bind_eq_some_iff.mp H
          obtain ⟨t113, A140, H⟩ := H
          replace H : (if t112 = t113 then ((report_Units.f a1).bind fun t114 => ((easelref24_Units.f a1).bind fun t115 => (easellaw24_ReportClocks.j0 k a0 a1 (t114 != t115)))) else (easellaw24_ReportClocks.j0 k a0 a1 true)) = some r := H
          have A14 := Aside0.mk A140
          clear A140
          by_cases c15 : t112 = t113
          · rw [if_pos c15] at H
            have c15b0 : (t112 == t113) = true := beq_iff_eq.mpr c15
            have c15b1 : (t112 != t113) = false := bne_eq_false_iff_eq.mpr c15
            clear c15
            replace H := Option.bind_eq_some_iff.mp H
            obtain ⟨t114, A160, H⟩ := H
            replace H : ((easelref24_Units.f a1).bind fun t115 => (easellaw24_ReportClocks.j0 k a0 a1 (t114 != t115))) = some r := H
            have A16 := Aside0.mk A160
            clear A160
            replace H := Option.bind_eq_some_iff.mp H
            obtain ⟨t115, A170, H⟩ := H
            replace H : (easellaw24_ReportClocks.j0 k a0 a1 (t114 != t115)) = some r := H
            have A17 := Aside0.mk A170
            clear A170
            have H' := Aside0.mk H
            clear H
            go_wp2_with (first | ((with_reducible refine gate_callee (f := 9) rfl ?_); refine goesL_ (some 12) rfl rfl Try.func9 (by kernel_rfl) rfl #[.int .u64 a0] rfl (by (try simp only [List.map_toArray, List.map_cons, List.map_nil]); first | done | rfl | (simp only [List.length_drop, List.length_take]; rfl)) ?_; (with_reducible refine (easelref24_Ntp.calls a0 t107 _ A5.out).mono ?_); rintro e w' ⟨rfl, ⟨nd, rfl⟩⟩; refine ⟨_, rfl, ?_⟩) | (go_at_call 10; (with_reducible refine (report_Middle.calls t106 t108 _ A7.out).mono ?_); rintro e w' ⟨rfl, ⟨nd, rfl⟩⟩) | (go_at_call 11; (with_reducible refine (easelref24_Middle.calls t106 t109 _ A8.out).mono ?_); rintro e w' ⟨rfl, ⟨nd, rfl⟩⟩) | (go_at_call 10; (with_reducible refine (report_Middle.calls a1 t110 _ A10.out).mono ?_); rintro e w' ⟨rfl, ⟨nd, rfl⟩⟩) | (go_at_call 11; (with_reducible refine (easelref24_Middle.calls a1 t111 _ A11.out).mono ?_); rintro e w' ⟨rfl, ⟨nd, rfl⟩⟩) | (go_at_call 12; (with_reducible refine (report_Units.calls a0 t112 _ A13.out).mono ?_); rintro e w' ⟨rfl, ⟨nd, rfl⟩⟩) | (go_at_call 13; (with_reducible refine (easelref24_Units.calls a0 t113 _ A14.out).mono ?_); rintro e w' ⟨rfl, ⟨nd, rfl⟩⟩) | (go_at_call 12; (with_reducible refine (report_Units.calls a1 t114 _ A16.out).mono ?_); rintro e w' ⟨rfl, ⟨nd, rfl⟩⟩) | (go_at_call 13; (with_reducible refine (easelref24_Units.calls a1 t115 _ A17.out).mono ?_); rintro e w' ⟨rfl, ⟨nd, rfl⟩⟩))
            go_meet
            case rel => exact ⟨_, ((t114 != t115)), (by first | rfl | (simp; done) | (simp [*]; done)), H', ⟨by first | omega | exact Nat.le_refl _⟩, by repeat (first | exact Drawn0.refl _ | apply Drawn0.step)⟩
          · rw [if_neg c15] at H
            have c15b0 : (t112 == t113) = false := beq_eq_false_iff_ne.mpr c15
            have c15b1 : (t112 != t113) = true := bne_iff_ne.mpr c15
            have H' := Aside0.mk H
            clear H
            go_wp2_with (first | ((with_reducible refine gate_callee (f := 9) rfl ?_); refine goesL_ (some 12) rfl rfl Try.func9 (by kernel_rfl) rfl #[.int .u64 a0] rfl (by (try simp only [List.map_toArray, List.map_cons, List.map_nil]); first | done | rfl | (simp only [List.length_drop, List.length_take]; rfl)) ?_; (with_reducible refine (easelref24_Ntp.calls a0 t107 _ A5.out).mono ?_); rintro e w' ⟨rfl, ⟨nd, rfl⟩⟩; refine ⟨_, rfl, ?_⟩) | (go_at_call 10; (with_reducible refine (report_Middle.calls t106 t108 _ A7.out).mono ?_); rintro e w' ⟨rfl, ⟨nd, rfl⟩⟩) | (go_at_call 11; (with_reducible refine (easelref24_Middle.calls t106 t109 _ A8.out).mono ?_); rintro e w' ⟨rfl, ⟨nd, rfl⟩⟩) | (go_at_call 10; (with_reducible refine (report_Middle.calls a1 t110 _ A10.out).mono ?_); rintro e w' ⟨rfl, ⟨nd, rfl⟩⟩) | (go_at_call 11; (with_reducible refine (easelref24_Middle.calls a1 t111 _ A11.out).mono ?_); rintro e w' ⟨rfl, ⟨nd, rfl⟩⟩) | (go_at_call 12; (with_reducible refine (report_Units.calls a0 t112 _ A13.out).mono ?_); rintro e w' ⟨rfl, ⟨nd, rfl⟩⟩) | (go_at_call 13; (with_reducible refine (easelref24_Units.calls a0 t113 _ A14.out).mono ?_); rintro e w' ⟨rfl, ⟨nd, rfl⟩⟩))
            go_meet
            case rel => exact ⟨_, (true), (by first | rfl | (simp; done) | (simp [*]; done)), H', ⟨by first | omega | exact Nat.le_refl _⟩, by repeat (first | exact Drawn0.refl _ | apply Drawn0.step)⟩
        · rw [if_neg c12] at H
          have c12b0 : (t110 == t111) = false := beq_eq_false_iff_ne.mpr c12
          have c12b1 : (t110 != t111) = true := bne_iff_ne.mpr c12
          have H' := Aside0.mk H
          clear H
          go_wp2_with (first | ((with_reducible refine gate_callee (f := 9) rfl ?_); refine goesL_ (some 12) rfl rfl Try.func9 (by kernel_rfl) rfl #[.int .u64 a0] rfl (by (try simp only [List.map_toArray, List.map_cons, List.map_nil]); first | done | rfl | (simp only [List.length_drop, List.length_take]; rfl)) ?_; (with_reducible refine (easelref24_Ntp.calls a0 t107 _ A5.out).mono ?_); rintro e w' ⟨rfl, ⟨nd, rfl⟩⟩; refine ⟨_, rfl, ?_⟩) | (go_at_call 10; (with_reducible refine (report_Middle.calls t106 t108 _ A7.out).mono ?_); rintro e w' ⟨rfl, ⟨nd, rfl⟩⟩) | (go_at_call 11; (with_reducible refine (easelref24_Middle.calls t106 t109 _ A8.out).mono ?_); rintro e w' ⟨rfl, ⟨nd, rfl⟩⟩) | (go_at_call 10; (with_reducible refine (report_Middle.calls a1 t110 _ A10.out).mono ?_); rintro e w' ⟨rfl, ⟨nd, rfl⟩⟩) | (go_at_call 11; (with_reducible refine (easelref24_Middle.calls a1 t111 _ A11.out).mono ?_); rintro e w' ⟨rfl, ⟨nd, rfl⟩⟩))
          go_meet
          case rel => exact ⟨_, (true), (by first | rfl | (simp; done) | (simp [*]; done)), H', ⟨by first | omega | exact Nat.le_refl _⟩, by repeat (first | exact Drawn0.refl _ | apply Drawn0.step)⟩
      · rw [if_neg c9] at H
        have c9b0 : (t108 == t109) = false := beq_eq_false_iff_ne.mpr c9
        have c9b1 : (t108 != t109) = true := bne_iff_ne.mpr c9
        have H' := Aside0.mk H
        clear H
        go_wp2_with (first | ((with_reducible refine gate_callee (f := 9) rfl ?_); refine goesL_ (some 12) rfl rfl Try.func9 (by kernel_rfl) rfl #[.int .u64 a0] rfl (by (try simp only [List.map_toArray, List.map_cons, List.map_nil]); first | done | rfl | (simp only [List.length_drop, List.length_take]; rfl)) ?_; (with_reducible refine (easelref24_Ntp.calls a0 t107 _ A5.out).mono ?_); rintro e w' ⟨rfl, ⟨nd, rfl⟩⟩; refine ⟨_, rfl, ?_⟩) | (go_at_call 10; (with_reducible refine (report_Middle.calls t106 t108 _ A7.out).mono ?_); rintro e w' ⟨rfl, ⟨nd, rfl⟩⟩) | (go_at_call 11; (with_reducible refine (easelref24_Middle.calls t106 t109 _ A8.out).mono ?_); rintro e w' ⟨rfl, ⟨nd, rfl⟩⟩))
        go_meet
        case rel => exact ⟨_, (true), (by first | rfl | (simp; done) | (simp [*]; done)), H', ⟨by first | omega | exact Nat.le_refl _⟩, by repeat (first | exact Drawn0.refl _ | apply Drawn0.step)⟩
    · rw [if_neg c6] at H
      have c6b0 : (t106 == t107) = false := beq_eq_false_iff_ne.mpr c6
      have c6b1 : (t106 != t107) = true := bne_iff_ne.mpr c6
      (first | rw [c6b0] | (simp only [i64_w, i32_w]; rw [c6b0]) | skip)
      have H' := Aside0.mk H
      clear H
      go_wp2_with (first | ((with_reducible refine gate_callee (f := 9) rfl ?_); refine goesL_ (some 12) rfl rfl Try.func9 (by kernel_rfl) rfl #[.int .u64 a0] rfl (by (try simp only [List.map_toArray, List.map_cons, List.map_nil]); first | done | rfl | (simp only [List.length_drop, List.length_take]; rfl)) ?_; (with_reducible refine (easelref24_Ntp.calls a0 t107 _ A5.out).mono ?_); rintro e w' ⟨rfl, ⟨nd, rfl⟩⟩; refine ⟨_, rfl, ?_⟩))
      go_meet
      case rel => exact ⟨_, (true), (by first | rfl | (simp; done) | (simp [*]; done)), H', ⟨by first | omega | exact Nat.le_refl _⟩, by repeat (first | exact Drawn0.refl _ | apply Drawn0.step)⟩
  case rest =>
    clear HC4
    try clear c1
    try clear p2
    try clear c3
    try clear c6
    try clear c6b0
    try clear c6b1
    try clear c8
    try clear c9
    try clear c9b0
    try clear c9b1
    try clear c12
    try clear c12b0
    try clear c12b1
    try clear c15
    try clear c15b0
    try clear c15b1
    obtain ⟨kq, x41_3, rfl, HA, HJ3, ⟨mc3, rfl⟩⟩ := hcut
    cases kq with
    | zero => exact absurd HA.out (by simp [easellaw24_ReportClocks.j0])
    | succ kj3 =>
      have H := HA.out
      clear HA
      simp only [easellaw24_ReportClocks.j0] at H
      by_cases c18 : x41_3 = true
      · subst c18
        have H1 : (some false) = some r := by rw [if_pos rfl] at H; exact H
        clear H
        have H := H1
        clear H1
        obtain rfl := Option.some.inj H
        go_wp2
        go_ret
        exact ⟨by first | rfl | (simp; done) | (simp [*]; done), by repeat (first | exact Drawn0.refl _ | apply Drawn0.step)⟩
      · replace c18 := Bool.eq_false_iff.mpr c18
        subst c18
        have H1 : ((report_Ntp.f (IntKind.u64.wrap ((Int.tmod a0 2199023255552) + (Int.tmod a1 1099511627776)))).bind fun t116 => ((report_Ntp.f (Int.tmod a0 2199023255552)).bind fun t117 => (if t116 ≥ t117 then ((report_Ntp.f (IntKind.u64.wrap ((Int.tmod a0 2199023255552) + 1000))).bind fun t118 => ((report_Ntp.f (Int.tmod a0 2199023255552)).bind fun t119 => (if (IntKind.u64.wrap (t118 - t119)) = 4294967296 then ((easellaw24_works.f).bind fun t120 => (some t120)) else (some false)))) else (some false)))) = some r := by rw [if_neg (show ¬ (false = true) by decide)] at H; exact H
        clear H
        have H := H1
        clear H1
        replace H := Option.bind_eq_some_iff.mp H
        obtain ⟨t116, A190, H⟩ := H
        replace H : ((report_Ntp.f (Int.tmod a0 2199023255552)).bind fun t117 => (if t116 ≥ t117 then ((report_Ntp.f (IntKind.u64.wrap ((Int.tmod a0 2199023255552) + 1000))).bind fun t118 => ((report_Ntp.f (Int.tmod a0 2199023255552)).bind fun t119 => (if (IntKind.u64.wrap (t118 - t119)) = 4294967296 then ((easellaw24_works.f).bind fun t120 => (some t120)) else (some false)))) else (some false))) = some r := H
        have A19 := Aside0.mk A190
        clear A190
        replace H := Option.bind_eq_some_iff.mp H
        obtain ⟨t117, A200, H⟩ := H
        replace H : (if t116 ≥ t117 then ((report_Ntp.f (IntKind.u64.wrap ((Int.tmod a0 2199023255552) + 1000))).bind fun t118 => ((report_Ntp.f (Int.tmod a0 2199023255552)).bind fun t119 => (if (IntKind.u64.wrap (t118 - t119)) = 4294967296 then ((easellaw24_works.f).bind fun t120 => (some t120)) else (some false)))) else (some false)) = some r := H
        have A20 := Aside0.mk A200
        clear A200
        by_cases c21 : t116 ≥ t117
        · rw [if_pos c21] at H
          have c21b0 : decide (t117 ≤ t116) = true := decide_eq_true c21
          clear c21
          replace H := Option.bind_eq_some_iff.mp H
          obtain ⟨t118, A220, H⟩ := H
          replace H : ((report_Ntp.f (Int.tmod a0 2199023255552)).bind fun t119 => (if (IntKind.u64.wrap (t118 - t119)) = 4294967296 then ((easellaw24_works.f).bind fun t120 => (some t120)) else (some false))) = some r := H
          have A22 := Aside0.mk A220
          clear A220
          replace H := Option.bind_eq_some_iff.mp H
          obtain ⟨t119, A230, H⟩ := H
          replace H : (if (IntKind.u64.wrap (t118 - t119)) = 4294967296 then ((easellaw24_works.f).bind fun t120 => (some t120)) else (some false)) = some r := H
          have A23 := Aside0.mk A230
          clear A230
          by_cases c24 : (IntKind.u64.wrap (t118 - t119)) = 4294967296
          · rw [if_pos c24] at H
            have c24b0 : ((IntKind.u64.wrap (t118 - t119)) == 4294967296) = true := beq_iff_eq.mpr c24
            have c24b1 : ((IntKind.u64.wrap (t118 - t119)) != 4294967296) = false := bne_eq_false_iff_eq.mpr c24
            clear c24
            replace H := Option.bind_eq_some_iff.mp H
            obtain ⟨t120, A250, H⟩ := H
            replace H : (some t120) = some r := H
            have A25 := Aside0.mk A250
            clear A250
            obtain rfl := Option.some.inj H
            go_wp2_with (first | ((with_reducible refine gate_callee (f := 8) rfl ?_); refine goesL_ (some 49) rfl rfl Try.func8 (by kernel_rfl) rfl #[.int .u64 (IntKind.u64.wrap ((Int.tmod a0 2199023255552) + (Int.tmod a1 1099511627776)))] rfl (by (try simp only [List.map_toArray, List.map_cons, List.map_nil]); first | done | rfl | (simp only [List.length_drop, List.length_take]; rfl)) ?_; (with_reducible refine (report_Ntp.calls (IntKind.u64.wrap ((Int.tmod a0 2199023255552) + (Int.tmod a1 1099511627776))) t116 _ A19.out).mono ?_); rintro e w' ⟨rfl, ⟨nd, rfl⟩⟩; refine ⟨_, rfl, ?_⟩) | ((with_reducible refine gate_callee (f := 8) rfl ?_); refine goesL_ (some 51) rfl rfl Try.func8 (by kernel_rfl) rfl #[.int .u64 (Int.tmod a0 2199023255552)] rfl (by (try simp only [List.map_toArray, List.map_cons, List.map_nil]); first | done | rfl | (simp only [List.length_drop, List.length_take]; rfl)) ?_; (with_reducible refine (report_Ntp.calls (Int.tmod a0 2199023255552) t117 _ A20.out).mono ?_); rintro e w' ⟨rfl, ⟨nd, rfl⟩⟩; refine ⟨_, rfl, ?_⟩) | (go_at_call 8; (with_reducible refine (report_Ntp.calls (IntKind.u64.wrap ((Int.tmod a0 2199023255552) + 1000)) t118 _ A22.out).mono ?_); rintro e w' ⟨rfl, ⟨nd, rfl⟩⟩) | (go_at_call 8; (with_reducible refine (report_Ntp.calls (Int.tmod a0 2199023255552) t119 _ A23.out).mono ?_); rintro e w' ⟨rfl, ⟨nd, rfl⟩⟩) | (go_at_call 14; (with_reducible refine (easellaw24_works.calls  t120 _ A25.out).mono ?_); rintro e w' ⟨rfl, ⟨nd, rfl⟩⟩))
            go_ret
            exact ⟨by first | rfl | (simp; done) | (simp [*]; done), by repeat (first | exact Drawn0.refl _ | apply Drawn0.step)⟩
          · rw [if_neg c24] at H
            have c24b0 : ((IntKind.u64.wrap (t118 - t119)) == 4294967296) = false := beq_eq_false_iff_ne.mpr c24
            have c24b1 : ((IntKind.u64.wrap (t118 - t119)) != 4294967296) = true := bne_iff_ne.mpr c24
            obtain rfl := Option.some.inj H
            go_wp2_with (first | ((with_reducible refine gate_callee (f := 8) rfl ?_); refine goesL_ (some 49) rfl rfl Try.func8 (by kernel_rfl) rfl #[.int .u64 (IntKind.u64.wrap ((Int.tmod a0 2199023255552) + (Int.tmod a1 1099511627776)))] rfl (by (try simp only [List.map_toArray, List.map_cons, List.map_nil]); first | done | rfl | (simp only [List.length_drop, List.length_take]; rfl)) ?_; (with_reducible refine (report_Ntp.calls (IntKind.u64.wrap ((Int.tmod a0 2199023255552) + (Int.tmod a1 1099511627776))) t116 _ A19.out).mono ?_); rintro e w' ⟨rfl, ⟨nd, rfl⟩⟩; refine ⟨_, rfl, ?_⟩) | ((with_reducible refine gate_callee (f := 8) rfl ?_); refine goesL_ (some 51) rfl rfl Try.func8 (by kernel_rfl) rfl #[.int .u64 (Int.tmod a0 2199023255552)] rfl (by (try simp only [List.map_toArray, List.map_cons, List.map_nil]); first | done | rfl | (simp only [List.length_drop, List.length_take]; rfl)) ?_; (with_reducible refine (report_Ntp.calls (Int.tmod a0 2199023255552) t117 _ A20.out).mono ?_); rintro e w' ⟨rfl, ⟨nd, rfl⟩⟩; refine ⟨_, rfl, ?_⟩) | (go_at_call 8; (with_reducible refine (report_Ntp.calls (IntKind.u64.wrap ((Int.tmod a0 2199023255552) + 1000)) t118 _ A22.out).mono ?_); rintro e w' ⟨rfl, ⟨nd, rfl⟩⟩) | (go_at_call 8; (with_reducible refine (report_Ntp.calls (Int.tmod a0 2199023255552) t119 _ A23.out).mono ?_); rintro e w' ⟨rfl, ⟨nd, rfl⟩⟩))
            go_ret
            exact ⟨by first | rfl | (simp; done) | (simp [*]; done), by repeat (first | exact Drawn0.refl _ | apply Drawn0.step)⟩
        · rw [if_neg c21] at H
          have c21b0 : decide (t117 ≤ t116) = false := decide_eq_false c21
          clear c21
          obtain rfl := Option.some.inj H
          go_wp2_with (first | ((with_reducible refine gate_callee (f := 8) rfl ?_); refine goesL_ (some 49) rfl rfl Try.func8 (by kernel_rfl) rfl #[.int .u64 (IntKind.u64.wrap ((Int.tmod a0 2199023255552) + (Int.tmod a1 1099511627776)))] rfl (by (try simp only [List.map_toArray, List.map_cons, List.map_nil]); first | done | rfl | (simp only [List.length_drop, List.length_take]; rfl)) ?_; (with_reducible refine (report_Ntp.calls (IntKind.u64.wrap ((Int.tmod a0 2199023255552) + (Int.tmod a1 1099511627776))) t116 _ A19.out).mono ?_); rintro e w' ⟨rfl, ⟨nd, rfl⟩⟩; refine ⟨_, rfl, ?_⟩) | ((with_reducible refine gate_callee (f := 8) rfl ?_); refine goesL_ (some 51) rfl rfl Try.func8 (by kernel_rfl) rfl #[.int .u64 (Int.tmod a0 2199023255552)] rfl (by (try simp only [List.map_toArray, List.map_cons, List.map_nil]); first | done | rfl | (simp only [List.length_drop, List.length_take]; rfl)) ?_; (with_reducible refine (report_Ntp.calls (Int.tmod a0 2199023255552) t117 _ A20.out).mono ?_); rintro e w' ⟨rfl, ⟨nd, rfl⟩⟩; refine ⟨_, rfl, ?_⟩))
          go_ret
          exact ⟨by first | rfl | (simp; done) | (simp [*]; done), by repeat (first | exact Drawn0.refl _ | apply Drawn0.step)⟩

/-- THE ONE PURE STATEMENT of easellaw24_ReportClocks: yours. -/
def easellaw24_ReportClocks.Pure : Prop := ∀ (a0 : Int) (a1 : Int), (Lit.int .u64 a0).wf = true → (Lit.int .u64 a1).wf = true → ∃ k, easellaw24_ReportClocks.f k a0 a1 = some true
theorem easellaw24_ReportClocks.walk (P : easellaw24_ReportClocks.Pure) (a0 : Int) (a1 : Int) (w : World) (w0 : (Lit.int .u64 a0).wf = true) (w1 : (Lit.int .u64 a1).wf = true) :
    Calls Try.prog 3 #[.int .u64 a0, .int .u64 a1] w fun e w' => e = .returned (.bool true) ∧ Below w.heap.size w w' := by
  obtain ⟨k, h⟩ := P a0 a1 w0 w1
  refine (easellaw24_ReportClocks.calls k a0 a1 true w h).mono ?_
  rintro e w' ⟨rfl, hd⟩
  exact ⟨rfl, hd.below⟩

end Go.Proofs.Ytogilblilljpmaa.PReportClocks
