/-
  Texts of my own, put together: walks and laws for this seat. No condition.
-/
import Derived.Test.YtmdeajdaeihniaaN4
import Derived.Test.YtmdeajdaeihniaaN3
/-
  Chapter 13: Heard, Tick, Holder, Pending, Waiting, New; a floor that is not there: walks of my own.
-/
namespace Go.Proofs.Ytmdeajdaeihniaa.X
open Go Go.RowKit
set_option linter.unusedVariables false
set_option linter.unusedSimpArgs false
set_option maxHeartbeats 800000 in
theorem xf_Heard {W : World} {L : List Blk} (r : Nat) (x : Fm) (hx : x.Ok) (w now : Int) (k : Bool) : XF Try.prog W 44 #[.pointer (some ⟨r, 0, none⟩), .int .u32 w, .int .u64 now, .bool k] (x.blks r L) (fun v L' => v = .bool (holdsA x.a w) ∧ ∃ y : Fm, y.Ok ∧ y.a = heardF x.a w now k ∧ L' = y.blks r L) := by
  obtain ⟨q, hq⟩ : ∃ q, holdsA x.a w = q := ⟨_, rfl⟩
  have hol := fun L' (h : ∀ z, z ∈ x.blks r L → z ∈ L') => xf_hol (W := W) (L := L') r x (hx.fr0 h) w q hq
  have hF : heardF x.a w now k = if q = true then { x.a with heard := now, pend := x.a.pend && !k } else x.a := by unfold heardF; rw [hq]
  rw [hq, hF]
  refine xf_enter (args := [_, _, _, _]) Try.func44 rfl Try.ntmps44 rfl ?_
  cases q with
  | false =>
    focus
      refine xc_seq ?_
      refine xc_region ?_
      refine xo_rd (rd_assign rfl) rfl ?_
      refine xo_nil ?_
      refine xq_seq ?_
      refine xc_seq ?_
      refine xc_seq ?_
      refine xc_region ?_
      refine xo_rd (rd_move rfl) rfl ?_
      refine xo_rd (rd_eqnil rfl) rfl ?_
      refine xo_rd (rd_move rfl) rfl ?_
      refine xo_grd rfl rfl (rd_move rfl) rfl ?_
      refine xo_grd rfl rfl (rd_move rfl) rfl ?_
      refine xo_gef rfl rfl rfl (ef_call rfl (XF.mono (hol _ (by intro z hz; simp [hz])) ?_))
      rintro v L' ⟨rfl, rfl⟩
      refine xo_grd rfl rfl (rd_not rfl) rfl ?_
      refine xo_rd (rd_pickf rfl rfl) rfl ?_
      refine xo_nil ?_
      refine xq_seq ?_
      refine xc_condt rfl ?_
      refine xc_seq ?_
      refine xc_region ?_
      refine xo_rd (rd_assign rfl) rfl ?_
      refine xo_nil ?_
      refine xq_seq ?_
      refine xc_ret ?_
      refine xq_then_ret ?_
    exact xq_ret1 (.inl rfl) Try.results44 rfl ⟨rfl, x, hx, rfl, rfl⟩
  | true =>
    focus
      refine xc_seq ?_
      refine xc_region ?_
      refine xo_rd (rd_assign rfl) rfl ?_
      refine xo_nil ?_
      refine xq_seq ?_
      refine xc_seq ?_
      refine xc_seq ?_
      refine xc_region ?_
      refine xo_rd (rd_move rfl) rfl ?_
      refine xo_rd (rd_eqnil rfl) rfl ?_
      refine xo_rd (rd_move rfl) rfl ?_
      refine xo_grd rfl rfl (rd_move rfl) rfl ?_
      refine xo_grd rfl rfl (rd_move rfl) rfl ?_
      refine xo_gef rfl rfl rfl (ef_call rfl (XF.mono (hol _ (by intro z hz; simp [hz])) ?_))
      rintro v L' ⟨rfl, rfl⟩
      refine xo_grd rfl rfl (rd_not rfl) rfl ?_
      refine xo_rd (rd_pickf rfl rfl) rfl ?_
      refine xo_nil ?_
      refine xq_seq ?_
      refine xc_condf rfl ?_
      refine xc_skip ?_
      refine xq_seq ?_
    clear hol
    obtain ⟨⟨bound, sil, ms, held, no, who, at', heard, pend, wt, gs⟩, mb, mo, wp, wc, wl, gp, gc, gl⟩ := x
    obtain ⟨hmp, hw, hgs, hnd, hbd, hwb, hmn⟩ := hx
    dsimp only at hmp hw hgs hnd hbd hwb hmn
    unfold Fm.blks Fm.cells
    dsimp only
    have hy : ∀ p, (Fm.mk ⟨bound, sil, ms, held, no, who, at', now, p, wt, gs⟩ mb mo wp wc wl gp gc gl).Ok := fun p => ⟨hmp, hw, hgs, hnd, hbd, hwb, hmn⟩
    cases pend <;> cases k
    all_goals skip
    · skip
      focus
        refine xc_seq ?_
        refine xc_region ?_
        refine xo_rd (rd_move rfl) rfl ?_
        refine xo_rd (rd_move rfl) rfl ?_
        refine xo_rd (rd_nilCheck rfl) rfl ?_
        refine xo_rd (rd_fieldAddr rfl) rfl ?_
        refine xo_rd (rd_fieldAddr rfl) rfl ?_
        refine xo_ef rfl (ef_store1 [] _ rfl rfl (by first | rfl | assumption) rfl rfl rfl ?_)
        refine xo_nil ?_
        refine xq_seq ?_
        refine xc_seq ?_
        refine xc_region ?_
        refine xo_rd (rd_move rfl) rfl ?_
        refine xo_rd (rd_move rfl) rfl ?_
        refine xo_rd (rd_nilCheck rfl) rfl ?_
        refine xo_rd (rd_fieldAddr rfl) rfl ?_
        refine xo_rd (rd_fieldAddr rfl) rfl ?_
        refine xo_rd (rd_load1 rfl (Cl.o0 rfl)) rfl ?_
        refine xo_rd (rd_move rfl) rfl ?_
        refine xo_gskip rfl rfl rfl rfl ?_
        refine xo_gskip rfl rfl rfl rfl ?_
        refine xo_rd (rd_pickf rfl rfl) rfl ?_
        refine xo_rd (rd_nilCheck rfl) rfl ?_
        refine xo_rd (rd_fieldAddr rfl) rfl ?_
        refine xo_rd (rd_fieldAddr rfl) rfl ?_
        refine xo_ef rfl (ef_store1 [] _ rfl rfl (by first | rfl | assumption) rfl rfl rfl ?_)
        refine xo_nil ?_
        refine xq_seq ?_
        refine xc_seq ?_
        refine xc_region ?_
        refine xo_rd (rd_assign rfl) rfl ?_
        refine xo_nil ?_
        refine xq_seq ?_
        refine xc_ret ?_
      exact xq_ret1 (.inl rfl) Try.results44 rfl ⟨rfl, _, hy _, rfl, rfl⟩
    · focus
        refine xc_seq ?_
        refine xc_region ?_
        refine xo_rd (rd_move rfl) rfl ?_
        refine xo_rd (rd_move rfl) rfl ?_
        refine xo_rd (rd_nilCheck rfl) rfl ?_
        refine xo_rd (rd_fieldAddr rfl) rfl ?_
        refine xo_rd (rd_fieldAddr rfl) rfl ?_
        refine xo_ef rfl (ef_store1 [] _ rfl rfl (by first | rfl | assumption) rfl rfl rfl ?_)
        refine xo_nil ?_
        refine xq_seq ?_
        refine xc_seq ?_
        refine xc_region ?_
        refine xo_rd (rd_move rfl) rfl ?_
        refine xo_rd (rd_move rfl) rfl ?_
        refine xo_rd (rd_nilCheck rfl) rfl ?_
        refine xo_rd (rd_fieldAddr rfl) rfl ?_
        refine xo_rd (rd_fieldAddr rfl) rfl ?_
        refine xo_rd (rd_load1 rfl (Cl.o0 rfl)) rfl ?_
        refine xo_rd (rd_move rfl) rfl ?_
        refine xo_gskip rfl rfl rfl rfl ?_
        refine xo_gskip rfl rfl rfl rfl ?_
        refine xo_rd (rd_pickf rfl rfl) rfl ?_
        refine xo_rd (rd_nilCheck rfl) rfl ?_
        refine xo_rd (rd_fieldAddr rfl) rfl ?_
        refine xo_rd (rd_fieldAddr rfl) rfl ?_
        refine xo_ef rfl (ef_store1 [] _ rfl rfl (by first | rfl | assumption) rfl rfl rfl ?_)
        refine xo_nil ?_
        refine xq_seq ?_
        refine xc_seq ?_
        refine xc_region ?_
        refine xo_rd (rd_assign rfl) rfl ?_
        refine xo_nil ?_
        refine xq_seq ?_
        refine xc_ret ?_
      exact xq_ret1 (.inl rfl) Try.results44 rfl ⟨rfl, _, hy _, rfl, rfl⟩
    · focus
        refine xc_seq ?_
        refine xc_region ?_
        refine xo_rd (rd_move rfl) rfl ?_
        refine xo_rd (rd_move rfl) rfl ?_
        refine xo_rd (rd_nilCheck rfl) rfl ?_
        refine xo_rd (rd_fieldAddr rfl) rfl ?_
        refine xo_rd (rd_fieldAddr rfl) rfl ?_
        refine xo_ef rfl (ef_store1 [] _ rfl rfl (by first | rfl | assumption) rfl rfl rfl ?_)
        refine xo_nil ?_
        refine xq_seq ?_
        refine xc_seq ?_
        refine xc_region ?_
        refine xo_rd (rd_move rfl) rfl ?_
        refine xo_rd (rd_move rfl) rfl ?_
        refine xo_rd (rd_nilCheck rfl) rfl ?_
        refine xo_rd (rd_fieldAddr rfl) rfl ?_
        refine xo_rd (rd_fieldAddr rfl) rfl ?_
        refine xo_rd (rd_load1 rfl (Cl.o0 rfl)) rfl ?_
        refine xo_rd (rd_move rfl) rfl ?_
        refine xo_grd rfl rfl (rd_move rfl) rfl ?_
        refine xo_grd rfl rfl (rd_not rfl) rfl ?_
        refine xo_rd (rd_pickt rfl rfl) rfl ?_
        refine xo_rd (rd_nilCheck rfl) rfl ?_
        refine xo_rd (rd_fieldAddr rfl) rfl ?_
        refine xo_rd (rd_fieldAddr rfl) rfl ?_
        refine xo_ef rfl (ef_store1 [] _ rfl rfl (by first | rfl | assumption) rfl rfl rfl ?_)
        refine xo_nil ?_
        refine xq_seq ?_
        refine xc_seq ?_
        refine xc_region ?_
        refine xo_rd (rd_assign rfl) rfl ?_
        refine xo_nil ?_
        refine xq_seq ?_
        refine xc_ret ?_
      exact xq_ret1 (.inl rfl) Try.results44 rfl ⟨rfl, _, hy _, rfl, rfl⟩
    · focus
        refine xc_seq ?_
        refine xc_region ?_
        refine xo_rd (rd_move rfl) rfl ?_
        refine xo_rd (rd_move rfl) rfl ?_
        refine xo_rd (rd_nilCheck rfl) rfl ?_
        refine xo_rd (rd_fieldAddr rfl) rfl ?_
        refine xo_rd (rd_fieldAddr rfl) rfl ?_
        refine xo_ef rfl (ef_store1 [] _ rfl rfl (by first | rfl | assumption) rfl rfl rfl ?_)
        refine xo_nil ?_
        refine xq_seq ?_
        refine xc_seq ?_
        refine xc_region ?_
        refine xo_rd (rd_move rfl) rfl ?_
        refine xo_rd (rd_move rfl) rfl ?_
        refine xo_rd (rd_nilCheck rfl) rfl ?_
        refine xo_rd (rd_fieldAddr rfl) rfl ?_
        refine xo_rd (rd_fieldAddr rfl) rfl ?_
        refine xo_rd (rd_load1 rfl (Cl.o0 rfl)) rfl ?_
        refine xo_rd (rd_move rfl) rfl ?_
        refine xo_grd rfl rfl (rd_move rfl) rfl ?_
        refine xo_grd rfl rfl (rd_not rfl) rfl ?_
        refine xo_rd (rd_pickt rfl rfl) rfl ?_
        refine xo_rd (rd_nilCheck rfl) rfl ?_
        refine xo_rd (rd_fieldAddr rfl) rfl ?_
        refine xo_rd (rd_fieldAddr rfl) rfl ?_
        refine xo_ef rfl (ef_store1 [] _ rfl rfl (by first | rfl | assumption) rfl rfl rfl ?_)
        refine xo_nil ?_
        refine xq_seq ?_
        refine xc_seq ?_
        refine xc_region ?_
        refine xo_rd (rd_assign rfl) rfl ?_
        refine xo_nil ?_
        refine xq_seq ?_
        refine xc_ret ?_
      exact xq_ret1 (.inl rfl) Try.results44 rfl ⟨rfl, _, hy _, rfl, rfl⟩
set_option maxHeartbeats 800000 in
theorem xf_Tick {W : World} {L : List Blk} (r : Nat) (x : Fm) (hx : x.Ok) (now : Int) (hg : x.a.gs.length ≤ 1000000) (h0 : 0 ≤ x.a.heard) (hn : now ≤ 18446744073709551615) : XF Try.prog W 45 #[.pointer (some ⟨r, 0, none⟩), .int .u64 now] (x.blks r L) (fun v L' => v = .bool (tickA x.a now) ∧ ∃ y : Fm, y.Ok ∧ y.a = tickF x.a now ∧ L' = y.blks r L) := by
  have hfr := fun L' (h : ∀ z, z ∈ x.blks r L → z ∈ L') => hx.fr0 (W := W) (L' := L') h
  have hF : tickF x.a now = if tickA x.a now = true then endF x.a now else x.a := rfl
  obtain ⟨hd, hhd⟩ : ∃ hd, x.a.heard = hd := ⟨_, rfl⟩
  obtain ⟨sl, hsl⟩ : ∃ sl, x.a.sil = sl := ⟨_, rfl⟩
  have e8 : x.cells[8]? = some (.bool x.a.held) := rfl
  have e6 : x.cells[6]? = some (.int .u64 hd) := by rw [← hhd]; rfl
  have e1 : x.cells[1]? = some (.int .u64 sl) := by rw [← hsl]; rfl
  rw [hF]
  unfold tickA
  rw [hhd] at h0 ⊢
  rw [hsl]
  refine xf_enter (args := [_, _]) Try.func45 rfl Try.ntmps45 rfl ?_
  cases hhe : x.a.held with
  | false =>
    rw [hhe] at e8
    focus
      refine xc_seq ?_
      refine xc_region ?_
      refine xo_rd (rd_assign rfl) rfl ?_
      refine xo_nil ?_
      refine xq_seq ?_
      refine xc_seq ?_
      refine xc_seq ?_
      refine xc_drawML [0, 1, 2, 4, 12, 20, 36, 68, 132, 260, 516, 1024, 1024, 5120, 9216, 17408, 33792, 68608, 132096, 263168, 524288, 524288, 2621440, 4718592, 8912896, 17301504, 35127296, 524288, 134742016, 268959744, 537395200, 1141374976, 2148007936] [0, 1, 2, 4, 12, 20, 36, 68, 132, 260, 516, 1024, 1024, 5120, 9216, 17408, 33792, 68608, 132096, 263168, 524288, 524288, 2621440, 4718592, 8912896, 17301504, 35127296, 524288, 134742016, 268959744, 537395200, 1141374976, 2148007936] (by kernel_rfl) (by kernel_rfl) (by kernel_rfl) ?_
      refine xm_take 0 (m' := 1) rfl (by kernel_rfl) (by first | exact Sb.refl | exact Sb.nil | (repeat (first | exact Sb.nil | exact Sb.refl | exact Sb.app0 | apply Sb.keep | apply Sb.keepApp | apply Sb.cons | apply Sb.app))) (rd_move rfl) rfl (by kernel_rfl) ?_
      refine xm_take 1 (m' := 3) rfl (by kernel_rfl) (by first | exact Sb.refl | exact Sb.nil | (repeat (first | exact Sb.nil | exact Sb.refl | exact Sb.app0 | apply Sb.keep | apply Sb.keepApp | apply Sb.cons | apply Sb.app))) (rd_eqnil rfl) rfl (by kernel_rfl) ?_
      refine xm_take 2 (m' := 7) rfl (by kernel_rfl) (by first | exact Sb.refl | exact Sb.nil | (repeat (first | exact Sb.nil | exact Sb.refl | exact Sb.app0 | apply Sb.keep | apply Sb.keepApp | apply Sb.cons | apply Sb.app))) (rd_move rfl) rfl (by kernel_rfl) ?_
      refine xm_gtake 3 (m' := 15) rfl (by kernel_rfl) (by first | exact Sb.refl | exact Sb.nil | (repeat (first | exact Sb.nil | exact Sb.refl | exact Sb.app0 | apply Sb.keep | apply Sb.keepApp | apply Sb.cons | apply Sb.app))) rfl rfl (rd_move rfl) rfl (by kernel_rfl) ?_
      refine xm_gtake 4 (m' := 31) rfl (by kernel_rfl) (by first | exact Sb.refl | exact Sb.nil | (repeat (first | exact Sb.nil | exact Sb.refl | exact Sb.app0 | apply Sb.keep | apply Sb.keepApp | apply Sb.cons | apply Sb.app))) rfl rfl (rd_nilCheck rfl) rfl (by kernel_rfl) ?_
      refine xm_gtake 5 (m' := 63) rfl (by kernel_rfl) (by first | exact Sb.refl | exact Sb.nil | (repeat (first | exact Sb.nil | exact Sb.refl | exact Sb.app0 | apply Sb.keep | apply Sb.keepApp | apply Sb.cons | apply Sb.app))) rfl rfl (rd_fieldAddr rfl) rfl (by kernel_rfl) ?_
      refine xm_gtake 6 (m' := 127) rfl (by kernel_rfl) (by first | exact Sb.refl | exact Sb.nil | (repeat (first | exact Sb.nil | exact Sb.refl | exact Sb.app0 | apply Sb.keep | apply Sb.keepApp | apply Sb.cons | apply Sb.app))) rfl rfl (rd_fieldAddr rfl) rfl (by kernel_rfl) ?_
      refine xm_gtake 7 (m' := 255) rfl (by kernel_rfl) (by first | exact Sb.refl | exact Sb.nil | (repeat (first | exact Sb.nil | exact Sb.refl | exact Sb.app0 | apply Sb.keep | apply Sb.keepApp | apply Sb.cons | apply Sb.app))) rfl rfl (rd_load1 rfl ((hfr _ (by intro z hz; simp [hz])).cl 8 _ e8)) rfl (by kernel_rfl) ?_
      refine xm_gtake 8 (m' := 511) rfl (by kernel_rfl) (by first | exact Sb.refl | exact Sb.nil | (repeat (first | exact Sb.nil | exact Sb.refl | exact Sb.app0 | apply Sb.keep | apply Sb.keepApp | apply Sb.cons | apply Sb.app))) rfl rfl (rd_not rfl) rfl (by kernel_rfl) ?_
      refine xm_take 9 (m' := 1023) rfl (by kernel_rfl) (by first | exact Sb.refl | exact Sb.nil | (repeat (first | exact Sb.nil | exact Sb.refl | exact Sb.app0 | apply Sb.keep | apply Sb.keepApp | apply Sb.cons | apply Sb.app))) (rd_pickf rfl rfl) rfl (by kernel_rfl) ?_
      refine xm_take 10 (m' := 2047) rfl (by kernel_rfl) (by first | exact Sb.refl | exact Sb.nil | (repeat (first | exact Sb.nil | exact Sb.refl | exact Sb.app0 | apply Sb.keep | apply Sb.keepApp | apply Sb.cons | apply Sb.app))) (rd_move rfl) rfl (by kernel_rfl) ?_
      refine xm_gskip 11 (m' := 4095) rfl (by kernel_rfl) (by first | exact Sb.refl | exact Sb.nil | (repeat (first | exact Sb.nil | exact Sb.refl | exact Sb.app0 | apply Sb.keep | apply Sb.keepApp | apply Sb.cons | apply Sb.app))) rfl rfl rfl rfl (by kernel_rfl) ?_
      refine xm_gskip 12 (m' := 8191) rfl (by kernel_rfl) (by first | exact Sb.refl | exact Sb.nil | (repeat (first | exact Sb.nil | exact Sb.refl | exact Sb.app0 | apply Sb.keep | apply Sb.keepApp | apply Sb.cons | apply Sb.app))) rfl rfl rfl rfl (by kernel_rfl) ?_
      refine xm_gskip 13 (m' := 16383) rfl (by kernel_rfl) (by first | exact Sb.refl | exact Sb.nil | (repeat (first | exact Sb.nil | exact Sb.refl | exact Sb.app0 | apply Sb.keep | apply Sb.keepApp | apply Sb.cons | apply Sb.app))) rfl rfl rfl rfl (by kernel_rfl) ?_
      refine xm_gskip 14 (m' := 32767) rfl (by kernel_rfl) (by first | exact Sb.refl | exact Sb.nil | (repeat (first | exact Sb.nil | exact Sb.refl | exact Sb.app0 | apply Sb.keep | apply Sb.keepApp | apply Sb.cons | apply Sb.app))) rfl rfl rfl rfl (by kernel_rfl) ?_
      refine xm_gskip 15 (m' := 65535) rfl (by kernel_rfl) (by first | exact Sb.refl | exact Sb.nil | (repeat (first | exact Sb.nil | exact Sb.refl | exact Sb.app0 | apply Sb.keep | apply Sb.keepApp | apply Sb.cons | apply Sb.app))) rfl rfl rfl rfl (by kernel_rfl) ?_
      refine xm_gskip 16 (m' := 131071) rfl (by kernel_rfl) (by first | exact Sb.refl | exact Sb.nil | (repeat (first | exact Sb.nil | exact Sb.refl | exact Sb.app0 | apply Sb.keep | apply Sb.keepApp | apply Sb.cons | apply Sb.app))) rfl rfl rfl rfl (by kernel_rfl) ?_
      refine xm_gskip 17 (m' := 262143) rfl (by kernel_rfl) (by first | exact Sb.refl | exact Sb.nil | (repeat (first | exact Sb.nil | exact Sb.refl | exact Sb.app0 | apply Sb.keep | apply Sb.keepApp | apply Sb.cons | apply Sb.app))) rfl rfl rfl rfl (by kernel_rfl) ?_
      refine xm_take 18 (m' := 524287) rfl (by kernel_rfl) (by first | exact Sb.refl | exact Sb.nil | (repeat (first | exact Sb.nil | exact Sb.refl | exact Sb.app0 | apply Sb.keep | apply Sb.keepApp | apply Sb.cons | apply Sb.app))) (rd_pickt rfl rfl) rfl (by kernel_rfl) ?_
      refine xm_take 19 (m' := 1048575) rfl (by kernel_rfl) (by first | exact Sb.refl | exact Sb.nil | (repeat (first | exact Sb.nil | exact Sb.refl | exact Sb.app0 | apply Sb.keep | apply Sb.keepApp | apply Sb.cons | apply Sb.app))) (rd_move rfl) rfl (by kernel_rfl) ?_
      refine xm_gskip 20 (m' := 2097151) rfl (by kernel_rfl) (by first | exact Sb.refl | exact Sb.nil | (repeat (first | exact Sb.nil | exact Sb.refl | exact Sb.app0 | apply Sb.keep | apply Sb.keepApp | apply Sb.cons | apply Sb.app))) rfl rfl rfl rfl (by kernel_rfl) ?_
      refine xm_gskip 21 (m' := 4194303) rfl (by kernel_rfl) (by first | exact Sb.refl | exact Sb.nil | (repeat (first | exact Sb.nil | exact Sb.refl | exact Sb.app0 | apply Sb.keep | apply Sb.keepApp | apply Sb.cons | apply Sb.app))) rfl rfl rfl rfl (by kernel_rfl) ?_
      refine xm_gskip 22 (m' := 8388607) rfl (by kernel_rfl) (by first | exact Sb.refl | exact Sb.nil | (repeat (first | exact Sb.nil | exact Sb.refl | exact Sb.app0 | apply Sb.keep | apply Sb.keepApp | apply Sb.cons | apply Sb.app))) rfl rfl rfl rfl (by kernel_rfl) ?_
      refine xm_gskip 23 (m' := 16777215) rfl (by kernel_rfl) (by first | exact Sb.refl | exact Sb.nil | (repeat (first | exact Sb.nil | exact Sb.refl | exact Sb.app0 | apply Sb.keep | apply Sb.keepApp | apply Sb.cons | apply Sb.app))) rfl rfl rfl rfl (by kernel_rfl) ?_
      refine xm_gskip 24 (m' := 33554431) rfl (by kernel_rfl) (by first | exact Sb.refl | exact Sb.nil | (repeat (first | exact Sb.nil | exact Sb.refl | exact Sb.app0 | apply Sb.keep | apply Sb.keepApp | apply Sb.cons | apply Sb.app))) rfl rfl rfl rfl (by kernel_rfl) ?_
      refine xm_gskip 25 (m' := 67108863) rfl (by kernel_rfl) (by first | exact Sb.refl | exact Sb.nil | (repeat (first | exact Sb.nil | exact Sb.refl | exact Sb.app0 | apply Sb.keep | apply Sb.keepApp | apply Sb.cons | apply Sb.app))) rfl rfl rfl rfl (by kernel_rfl) ?_
      refine xm_gskip 26 (m' := 134217727) rfl (by kernel_rfl) (by first | exact Sb.refl | exact Sb.nil | (repeat (first | exact Sb.nil | exact Sb.refl | exact Sb.app0 | apply Sb.keep | apply Sb.keepApp | apply Sb.cons | apply Sb.app))) rfl rfl rfl rfl (by kernel_rfl) ?_
      refine xm_gskip 27 (m' := 268435455) rfl (by kernel_rfl) (by first | exact Sb.refl | exact Sb.nil | (repeat (first | exact Sb.nil | exact Sb.refl | exact Sb.app0 | apply Sb.keep | apply Sb.keepApp | apply Sb.cons | apply Sb.app))) rfl rfl rfl rfl (by kernel_rfl) ?_
      refine xm_gskip 28 (m' := 536870911) rfl (by kernel_rfl) (by first | exact Sb.refl | exact Sb.nil | (repeat (first | exact Sb.nil | exact Sb.refl | exact Sb.app0 | apply Sb.keep | apply Sb.keepApp | apply Sb.cons | apply Sb.app))) rfl rfl rfl rfl (by kernel_rfl) ?_
      refine xm_gskip 29 (m' := 1073741823) rfl (by kernel_rfl) (by first | exact Sb.refl | exact Sb.nil | (repeat (first | exact Sb.nil | exact Sb.refl | exact Sb.app0 | apply Sb.keep | apply Sb.keepApp | apply Sb.cons | apply Sb.app))) rfl rfl rfl rfl (by kernel_rfl) ?_
      refine xm_gskip 30 (m' := 2147483647) rfl (by kernel_rfl) (by first | exact Sb.refl | exact Sb.nil | (repeat (first | exact Sb.nil | exact Sb.refl | exact Sb.app0 | apply Sb.keep | apply Sb.keepApp | apply Sb.cons | apply Sb.app))) rfl rfl rfl rfl (by kernel_rfl) ?_
      refine xm_gskip 31 (m' := 4294967295) rfl (by kernel_rfl) (by first | exact Sb.refl | exact Sb.nil | (repeat (first | exact Sb.nil | exact Sb.refl | exact Sb.app0 | apply Sb.keep | apply Sb.keepApp | apply Sb.cons | apply Sb.app))) rfl rfl rfl rfl (by kernel_rfl) ?_
      refine xm_take 32 (m' := 8589934591) rfl (by kernel_rfl) (by first | exact Sb.refl | exact Sb.nil | (repeat (first | exact Sb.nil | exact Sb.refl | exact Sb.app0 | apply Sb.keep | apply Sb.keepApp | apply Sb.cons | apply Sb.app))) (rd_pickt rfl rfl) rfl (by kernel_rfl) ?_
      refine xm_done (by kernel_rfl) ?_
      refine xq_seq ?_
      refine xc_condt rfl ?_
      refine xc_seq ?_
      refine xc_region ?_
      refine xo_rd (rd_assign rfl) rfl ?_
      refine xo_nil ?_
      refine xq_seq ?_
      refine xc_ret ?_
      refine xq_then_ret ?_
    exact xq_ret1 (.inl rfl) Try.results45 rfl ⟨rfl, x, hx, rfl, rfl⟩
  | true =>
    rw [hhe] at e8
    focus
      refine xc_seq ?_
      refine xc_region ?_
      refine xo_rd (rd_assign rfl) rfl ?_
      refine xo_nil ?_
      refine xq_seq ?_
      refine xc_seq ?_
      refine xc_seq ?_
      refine xc_drawML [0, 1, 2, 4, 12, 20, 36, 68, 132, 260, 516, 1024, 1024, 5120, 9216, 17408, 33792, 68608, 132096, 263168, 524288, 524288, 2621440, 4718592, 8912896, 17301504, 35127296, 524288, 134742016, 268959744, 537395200, 1141374976, 2148007936] [0, 1, 2, 4, 12, 20, 36, 68, 132, 260, 516, 1024, 1024, 5120, 9216, 17408, 33792, 68608, 132096, 263168, 524288, 524288, 2621440, 4718592, 8912896, 17301504, 35127296, 524288, 134742016, 268959744, 537395200, 1141374976, 2148007936] (by kernel_rfl) (by kernel_rfl) (by kernel_rfl) ?_
      refine xm_take 0 (m' := 1) rfl (by kernel_rfl) (by first | exact Sb.refl | exact Sb.nil | (repeat (first | exact Sb.nil | exact Sb.refl | exact Sb.app0 | apply Sb.keep | apply Sb.keepApp | apply Sb.cons | apply Sb.app))) (rd_move rfl) rfl (by kernel_rfl) ?_
      refine xm_take 1 (m' := 3) rfl (by kernel_rfl) (by first | exact Sb.refl | exact Sb.nil | (repeat (first | exact Sb.nil | exact Sb.refl | exact Sb.app0 | apply Sb.keep | apply Sb.keepApp | apply Sb.cons | apply Sb.app))) (rd_eqnil rfl) rfl (by kernel_rfl) ?_
      refine xm_take 2 (m' := 7) rfl (by kernel_rfl) (by first | exact Sb.refl | exact Sb.nil | (repeat (first | exact Sb.nil | exact Sb.refl | exact Sb.app0 | apply Sb.keep | apply Sb.keepApp | apply Sb.cons | apply Sb.app))) (rd_move rfl) rfl (by kernel_rfl) ?_
      refine xm_gtake 3 (m' := 15) rfl (by kernel_rfl) (by first | exact Sb.refl | exact Sb.nil | (repeat (first | exact Sb.nil | exact Sb.refl | exact Sb.app0 | apply Sb.keep | apply Sb.keepApp | apply Sb.cons | apply Sb.app))) rfl rfl (rd_move rfl) rfl (by kernel_rfl) ?_
      refine xm_gtake 4 (m' := 31) rfl (by kernel_rfl) (by first | exact Sb.refl | exact Sb.nil | (repeat (first | exact Sb.nil | exact Sb.refl | exact Sb.app0 | apply Sb.keep | apply Sb.keepApp | apply Sb.cons | apply Sb.app))) rfl rfl (rd_nilCheck rfl) rfl (by kernel_rfl) ?_
      refine xm_gtake 5 (m' := 63) rfl (by kernel_rfl) (by first | exact Sb.refl | exact Sb.nil | (repeat (first | exact Sb.nil | exact Sb.refl | exact Sb.app0 | apply Sb.keep | apply Sb.keepApp | apply Sb.cons | apply Sb.app))) rfl rfl (rd_fieldAddr rfl) rfl (by kernel_rfl) ?_
      refine xm_gtake 6 (m' := 127) rfl (by kernel_rfl) (by first | exact Sb.refl | exact Sb.nil | (repeat (first | exact Sb.nil | exact Sb.refl | exact Sb.app0 | apply Sb.keep | apply Sb.keepApp | apply Sb.cons | apply Sb.app))) rfl rfl (rd_fieldAddr rfl) rfl (by kernel_rfl) ?_
      refine xm_gtake 7 (m' := 255) rfl (by kernel_rfl) (by first | exact Sb.refl | exact Sb.nil | (repeat (first | exact Sb.nil | exact Sb.refl | exact Sb.app0 | apply Sb.keep | apply Sb.keepApp | apply Sb.cons | apply Sb.app))) rfl rfl (rd_load1 rfl ((hfr _ (by intro z hz; simp [hz])).cl 8 _ e8)) rfl (by kernel_rfl) ?_
      refine xm_gtake 8 (m' := 511) rfl (by kernel_rfl) (by first | exact Sb.refl | exact Sb.nil | (repeat (first | exact Sb.nil | exact Sb.refl | exact Sb.app0 | apply Sb.keep | apply Sb.keepApp | apply Sb.cons | apply Sb.app))) rfl rfl (rd_not rfl) rfl (by kernel_rfl) ?_
      refine xm_take 9 (m' := 1023) rfl (by kernel_rfl) (by first | exact Sb.refl | exact Sb.nil | (repeat (first | exact Sb.nil | exact Sb.refl | exact Sb.app0 | apply Sb.keep | apply Sb.keepApp | apply Sb.cons | apply Sb.app))) (rd_pickf rfl rfl) rfl (by kernel_rfl) ?_
      refine xm_take 10 (m' := 2047) rfl (by kernel_rfl) (by first | exact Sb.refl | exact Sb.nil | (repeat (first | exact Sb.nil | exact Sb.refl | exact Sb.app0 | apply Sb.keep | apply Sb.keepApp | apply Sb.cons | apply Sb.app))) (rd_move rfl) rfl (by kernel_rfl) ?_
      refine xm_gtake 11 (m' := 4095) rfl (by kernel_rfl) (by first | exact Sb.refl | exact Sb.nil | (repeat (first | exact Sb.nil | exact Sb.refl | exact Sb.app0 | apply Sb.keep | apply Sb.keepApp | apply Sb.cons | apply Sb.app))) rfl rfl (rd_move rfl) rfl (by kernel_rfl) ?_
      refine xm_gtake 12 (m' := 8191) rfl (by kernel_rfl) (by first | exact Sb.refl | exact Sb.nil | (repeat (first | exact Sb.nil | exact Sb.refl | exact Sb.app0 | apply Sb.keep | apply Sb.keepApp | apply Sb.cons | apply Sb.app))) rfl rfl (rd_move rfl) rfl (by kernel_rfl) ?_
      refine xm_gtake 13 (m' := 16383) rfl (by kernel_rfl) (by first | exact Sb.refl | exact Sb.nil | (repeat (first | exact Sb.nil | exact Sb.refl | exact Sb.app0 | apply Sb.keep | apply Sb.keepApp | apply Sb.cons | apply Sb.app))) rfl rfl (rd_nilCheck rfl) rfl (by kernel_rfl) ?_
      refine xm_gtake 14 (m' := 32767) rfl (by kernel_rfl) (by first | exact Sb.refl | exact Sb.nil | (repeat (first | exact Sb.nil | exact Sb.refl | exact Sb.app0 | apply Sb.keep | apply Sb.keepApp | apply Sb.cons | apply Sb.app))) rfl rfl (rd_fieldAddr rfl) rfl (by kernel_rfl) ?_
      refine xm_gtake 15 (m' := 65535) rfl (by kernel_rfl) (by first | exact Sb.refl | exact Sb.nil | (repeat (first | exact Sb.nil | exact Sb.refl | exact Sb.app0 | apply Sb.keep | apply Sb.keepApp | apply Sb.cons | apply Sb.app))) rfl rfl (rd_fieldAddr rfl) rfl (by kernel_rfl) ?_
      refine xm_gtake 16 (m' := 131071) rfl (by kernel_rfl) (by first | exact Sb.refl | exact Sb.nil | (repeat (first | exact Sb.nil | exact Sb.refl | exact Sb.app0 | apply Sb.keep | apply Sb.keepApp | apply Sb.cons | apply Sb.app))) rfl rfl (rd_load1 rfl ((hfr _ (by intro z hz; simp [hz])).cl 6 _ e6)) rfl (by kernel_rfl) ?_
      refine xm_gtake 17 (m' := 262143) rfl (by kernel_rfl) (by first | exact Sb.refl | exact Sb.nil | (repeat (first | exact Sb.nil | exact Sb.refl | exact Sb.app0 | apply Sb.keep | apply Sb.keepApp | apply Sb.cons | apply Sb.app))) rfl rfl (rd_lss rfl rfl) rfl (by kernel_rfl) ?_
      refine xm_take 18 (m' := 524287) rfl (by kernel_rfl) (by first | exact Sb.refl | exact Sb.nil | (repeat (first | exact Sb.nil | exact Sb.refl | exact Sb.app0 | apply Sb.keep | apply Sb.keepApp | apply Sb.cons | apply Sb.app))) (rd_pickf rfl rfl) rfl (by kernel_rfl) ?_
      refine xm_take 19 (m' := 1048575) rfl (by kernel_rfl) (by first | exact Sb.refl | exact Sb.nil | (repeat (first | exact Sb.nil | exact Sb.refl | exact Sb.app0 | apply Sb.keep | apply Sb.keepApp | apply Sb.cons | apply Sb.app))) (rd_move rfl) rfl (by kernel_rfl) ?_
      refine xm_dec 24 rfl (fun hz1 => ?_) (fun hz1 => ?_)
      refine xm_gskip 20 (m' := 2097151) rfl (by kernel_rfl) (by first | exact Sb.refl | exact Sb.nil | (repeat (first | exact Sb.nil | exact Sb.refl | exact Sb.app0 | apply Sb.keep | apply Sb.keepApp | apply Sb.cons | apply Sb.app))) rfl rfl rfl rfl (by kernel_rfl) ?_
      refine xm_gskip 21 (m' := 4194303) rfl (by kernel_rfl) (by first | exact Sb.refl | exact Sb.nil | (repeat (first | exact Sb.nil | exact Sb.refl | exact Sb.app0 | apply Sb.keep | apply Sb.keepApp | apply Sb.cons | apply Sb.app))) rfl rfl rfl rfl (by kernel_rfl) ?_
      refine xm_gskip 22 (m' := 8388607) rfl (by kernel_rfl) (by first | exact Sb.refl | exact Sb.nil | (repeat (first | exact Sb.nil | exact Sb.refl | exact Sb.app0 | apply Sb.keep | apply Sb.keepApp | apply Sb.cons | apply Sb.app))) rfl rfl rfl rfl (by kernel_rfl) ?_
      refine xm_gskip 23 (m' := 16777215) rfl (by kernel_rfl) (by first | exact Sb.refl | exact Sb.nil | (repeat (first | exact Sb.nil | exact Sb.refl | exact Sb.app0 | apply Sb.keep | apply Sb.keepApp | apply Sb.cons | apply Sb.app))) rfl rfl rfl rfl (by kernel_rfl) ?_
      refine xm_gskip 24 (m' := 33554431) rfl (by kernel_rfl) (by first | exact Sb.refl | exact Sb.nil | (repeat (first | exact Sb.nil | exact Sb.refl | exact Sb.app0 | apply Sb.keep | apply Sb.keepApp | apply Sb.cons | apply Sb.app))) rfl rfl rfl rfl (by kernel_rfl) ?_
      refine xm_gskip 25 (m' := 67108863) rfl (by kernel_rfl) (by first | exact Sb.refl | exact Sb.nil | (repeat (first | exact Sb.nil | exact Sb.refl | exact Sb.app0 | apply Sb.keep | apply Sb.keepApp | apply Sb.cons | apply Sb.app))) rfl rfl rfl rfl (by kernel_rfl) ?_
      refine xm_gskip 26 (m' := 134217727) rfl (by kernel_rfl) (by first | exact Sb.refl | exact Sb.nil | (repeat (first | exact Sb.nil | exact Sb.refl | exact Sb.app0 | apply Sb.keep | apply Sb.keepApp | apply Sb.cons | apply Sb.app))) rfl rfl rfl rfl (by kernel_rfl) ?_
      refine xm_gskip 27 (m' := 268435455) rfl (by kernel_rfl) (by first | exact Sb.refl | exact Sb.nil | (repeat (first | exact Sb.nil | exact Sb.refl | exact Sb.app0 | apply Sb.keep | apply Sb.keepApp | apply Sb.cons | apply Sb.app))) rfl rfl rfl rfl (by kernel_rfl) ?_
      refine xm_gskip 28 (m' := 536870911) rfl (by kernel_rfl) (by first | exact Sb.refl | exact Sb.nil | (repeat (first | exact Sb.nil | exact Sb.refl | exact Sb.app0 | apply Sb.keep | apply Sb.keepApp | apply Sb.cons | apply Sb.app))) rfl rfl rfl rfl (by kernel_rfl) ?_
      refine xm_gskip 29 (m' := 1073741823) rfl (by kernel_rfl) (by first | exact Sb.refl | exact Sb.nil | (repeat (first | exact Sb.nil | exact Sb.refl | exact Sb.app0 | apply Sb.keep | apply Sb.keepApp | apply Sb.cons | apply Sb.app))) rfl rfl rfl rfl (by kernel_rfl) ?_
      refine xm_gskip 30 (m' := 2147483647) rfl (by kernel_rfl) (by first | exact Sb.refl | exact Sb.nil | (repeat (first | exact Sb.nil | exact Sb.refl | exact Sb.app0 | apply Sb.keep | apply Sb.keepApp | apply Sb.cons | apply Sb.app))) rfl rfl rfl rfl (by kernel_rfl) ?_
      refine xm_gskip 31 (m' := 4294967295) rfl (by kernel_rfl) (by first | exact Sb.refl | exact Sb.nil | (repeat (first | exact Sb.nil | exact Sb.refl | exact Sb.app0 | apply Sb.keep | apply Sb.keepApp | apply Sb.cons | apply Sb.app))) rfl rfl rfl rfl (by kernel_rfl) ?_
      refine xm_take 32 (m' := 8589934591) rfl (by kernel_rfl) (by first | exact Sb.refl | exact Sb.nil | (repeat (first | exact Sb.nil | exact Sb.refl | exact Sb.app0 | apply Sb.keep | apply Sb.keepApp | apply Sb.cons | apply Sb.app))) (rd_pickt rfl rfl) rfl (by kernel_rfl) ?_
      refine xm_done (by kernel_rfl) ?_
      refine xq_seq ?_
      refine xc_condt rfl ?_
      refine xc_seq ?_
      refine xc_region ?_
      refine xo_rd (rd_assign rfl) rfl ?_
      refine xo_nil ?_
      refine xq_seq ?_
      refine xc_ret ?_
      refine xq_then_ret ?_
      rotate_left
      refine xm_gtake 20 (m' := 2097151) rfl (by kernel_rfl) (by first | exact Sb.refl | exact Sb.nil | (repeat (first | exact Sb.nil | exact Sb.refl | exact Sb.app0 | apply Sb.keep | apply Sb.keepApp | apply Sb.cons | apply Sb.app))) rfl rfl (rd_move rfl) rfl (by kernel_rfl) ?_
      refine xm_gtake 21 (m' := 4194303) rfl (by kernel_rfl) (by first | exact Sb.refl | exact Sb.nil | (repeat (first | exact Sb.nil | exact Sb.refl | exact Sb.app0 | apply Sb.keep | apply Sb.keepApp | apply Sb.cons | apply Sb.app))) rfl rfl (rd_move rfl) rfl (by kernel_rfl) ?_
      refine xm_gtake 22 (m' := 8388607) rfl (by kernel_rfl) (by first | exact Sb.refl | exact Sb.nil | (repeat (first | exact Sb.nil | exact Sb.refl | exact Sb.app0 | apply Sb.keep | apply Sb.keepApp | apply Sb.cons | apply Sb.app))) rfl rfl (rd_nilCheck rfl) rfl (by kernel_rfl) ?_
      refine xm_gtake 23 (m' := 16777215) rfl (by kernel_rfl) (by first | exact Sb.refl | exact Sb.nil | (repeat (first | exact Sb.nil | exact Sb.refl | exact Sb.app0 | apply Sb.keep | apply Sb.keepApp | apply Sb.cons | apply Sb.app))) rfl rfl (rd_fieldAddr rfl) rfl (by kernel_rfl) ?_
      refine xm_gtake 24 (m' := 33554431) rfl (by kernel_rfl) (by first | exact Sb.refl | exact Sb.nil | (repeat (first | exact Sb.nil | exact Sb.refl | exact Sb.app0 | apply Sb.keep | apply Sb.keepApp | apply Sb.cons | apply Sb.app))) rfl rfl (rd_fieldAddr rfl) rfl (by kernel_rfl) ?_
      refine xm_gtake 25 (m' := 67108863) rfl (by kernel_rfl) (by first | exact Sb.refl | exact Sb.nil | (repeat (first | exact Sb.nil | exact Sb.refl | exact Sb.app0 | apply Sb.keep | apply Sb.keepApp | apply Sb.cons | apply Sb.app))) rfl rfl (rd_load1 rfl ((hfr _ (by intro z hz; simp [hz])).cl 6 _ e6)) rfl (by kernel_rfl) ?_
      refine xm_gtake 26 (m' := 134217727) rfl (by kernel_rfl) (by first | exact Sb.refl | exact Sb.nil | (repeat (first | exact Sb.nil | exact Sb.refl | exact Sb.app0 | apply Sb.keep | apply Sb.keepApp | apply Sb.cons | apply Sb.app))) rfl rfl (rd_subn rfl rfl (by omega) (by omega)) rfl (by kernel_rfl) ?_
      refine xm_gtake 27 (m' := 268435455) rfl (by kernel_rfl) (by first | exact Sb.refl | exact Sb.nil | (repeat (first | exact Sb.nil | exact Sb.refl | exact Sb.app0 | apply Sb.keep | apply Sb.keepApp | apply Sb.cons | apply Sb.app))) rfl rfl (rd_move rfl) rfl (by kernel_rfl) ?_
      refine xm_gtake 28 (m' := 536870911) rfl (by kernel_rfl) (by first | exact Sb.refl | exact Sb.nil | (repeat (first | exact Sb.nil | exact Sb.refl | exact Sb.app0 | apply Sb.keep | apply Sb.keepApp | apply Sb.cons | apply Sb.app))) rfl rfl (rd_nilCheck rfl) rfl (by kernel_rfl) ?_
      refine xm_gtake 29 (m' := 1073741823) rfl (by kernel_rfl) (by first | exact Sb.refl | exact Sb.nil | (repeat (first | exact Sb.nil | exact Sb.refl | exact Sb.app0 | apply Sb.keep | apply Sb.keepApp | apply Sb.cons | apply Sb.app))) rfl rfl (rd_fieldAddr rfl) rfl (by kernel_rfl) ?_
      refine xm_gtake 30 (m' := 2147483647) rfl (by kernel_rfl) (by first | exact Sb.refl | exact Sb.nil | (repeat (first | exact Sb.nil | exact Sb.refl | exact Sb.app0 | apply Sb.keep | apply Sb.keepApp | apply Sb.cons | apply Sb.app))) rfl rfl (rd_load1 rfl ((hfr _ (by intro z hz; simp [hz])).cl 1 _ e1)) rfl (by kernel_rfl) ?_
      refine xm_gtake 31 (m' := 4294967295) rfl (by kernel_rfl) (by first | exact Sb.refl | exact Sb.nil | (repeat (first | exact Sb.nil | exact Sb.refl | exact Sb.app0 | apply Sb.keep | apply Sb.keepApp | apply Sb.cons | apply Sb.app))) rfl rfl (rd_lss rfl rfl) rfl (by kernel_rfl) ?_
      refine xm_take 32 (m' := 8589934591) rfl (by kernel_rfl) (by first | exact Sb.refl | exact Sb.nil | (repeat (first | exact Sb.nil | exact Sb.refl | exact Sb.app0 | apply Sb.keep | apply Sb.keepApp | apply Sb.cons | apply Sb.app))) (rd_pickf rfl rfl) rfl (by kernel_rfl) ?_
      refine xm_done (by kernel_rfl) ?_
      refine xq_seq ?_
      refine xc_dec rfl (fun hz2 => ?_) (fun hz2 => ?_)
      refine xc_seq ?_
      refine xc_region ?_
      refine xo_rd (rd_assign rfl) rfl ?_
      refine xo_nil ?_
      refine xq_seq ?_
      refine xc_ret ?_
      refine xq_then_ret ?_
      rotate_left
      refine xc_skip ?_
      refine xq_seq ?_
      rotate_left
    all_goals first
      | exact xq_ret1 (.inl rfl) Try.results45 rfl ⟨by rw [decide_eq_false (by omega)]; rfl, x, hx, by rw [decide_eq_false (by omega)]; rfl, rfl⟩
      | exact xq_ret1 (.inl rfl) Try.results45 rfl ⟨by rw [decide_eq_true (show hd ≤ now by omega), decide_eq_false (by omega)]; rfl, x, hx, by rw [decide_eq_true (show hd ≤ now by omega), decide_eq_false (by omega)]; rfl, rfl⟩
      | skip
    rw [decide_eq_true (show hd ≤ now by omega), decide_eq_true (show sl ≤ now - hd by omega)]
    focus
      refine xc_seq ?_
      refine xc_region ?_
      refine xo_rd (rd_move rfl) rfl ?_
      refine xo_rd (rd_move rfl) rfl ?_
      refine xo_ef rfl (ef_call rfl (XF.mono (xf_end r x hx now hg) ?_))
      rintro v L' ⟨rfl, y, hy, hya, rfl⟩
      refine xo_nil ?_
      refine xq_seq ?_
      refine xc_seq ?_
      refine xc_region ?_
      refine xo_rd (rd_assign rfl) rfl ?_
      refine xo_nil ?_
      refine xq_seq ?_
      refine xc_ret ?_
    exact xq_ret1 (.inl rfl) Try.results45 rfl ⟨rfl, y, hy, hya, rfl⟩
theorem fr_g {W : World} {L : List Blk} {r : Nat} {x : Fm} (h : FR W L r x) : ∀ (j : Nat) (u : Value), (gEnc (x.a.no, x.a.who, x.a.at'))[j]? = some u → Cl W L r (3 + j) u := fun j u hj => by
  refine h.cl (3 + j) u ?_
  match j, hj with
  | 0, h => exact h
  | 1, h => exact h
  | 2, h => exact h
theorem xf_Holder {W : World} {L : List Blk} (r : Nat) (x : Fm) (hfr : FR W L r x) : XF Try.prog W 29 #[.pointer (some ⟨r, 0, none⟩)] L (fun v L' => v = .tuple #[.agg (gEnc (x.a.no, x.a.who, x.a.at')).toArray, .bool x.a.held] ∧ L' = L) := by
  have hc := hfr.cl
  refine xf_enter (args := [_]) Try.func29 rfl Try.ntmps29 rfl ?_
  focus
    refine xc_seq ?_
    refine xc_region ?_
    refine xo_ef rfl (ef_alloc fun r2 => ?_)
    refine xo_rd (rd_assign rfl) rfl ?_
    refine xo_nil ?_
    refine xq_seq ?_
    refine xc_seq ?_
    refine xc_seq ?_
    refine xc_region ?_
    refine xo_rd (rd_move rfl) rfl ?_
    refine xo_rd (rd_eqnil rfl) rfl ?_
    refine xo_nil ?_
    refine xq_seq ?_
    refine xc_condf rfl ?_
    refine xc_skip ?_
    refine xq_seq ?_
    refine xc_seq ?_
    refine xc_drawM [0, 1, 2, 4, 8, 0, 32, 64, 128, 256, 31, 2047] [0, 1, 2, 4, 8, 0, 32, 64, 128, 256, 31, 2047] (L) (by kernel_rfl) (by kernel_rfl) (by kernel_rfl) ?_
    refine xm_take 0 (m' := 1) rfl (by kernel_rfl) (by first | exact Sb.refl | exact Sb.nil | (repeat (first | exact Sb.nil | exact Sb.refl | exact Sb.app0 | apply Sb.keep | apply Sb.keepApp | apply Sb.cons | apply Sb.app))) (rd_move rfl) rfl (by kernel_rfl) ?_
    refine xm_take 1 (m' := 3) rfl (by kernel_rfl) (by first | exact Sb.refl | exact Sb.nil | (repeat (first | exact Sb.nil | exact Sb.refl | exact Sb.app0 | apply Sb.keep | apply Sb.keepApp | apply Sb.cons | apply Sb.app))) (rd_nilCheck rfl) rfl (by kernel_rfl) ?_
    refine xm_take 2 (m' := 7) rfl (by kernel_rfl) (by first | exact Sb.refl | exact Sb.nil | (repeat (first | exact Sb.nil | exact Sb.refl | exact Sb.app0 | apply Sb.keep | apply Sb.keepApp | apply Sb.cons | apply Sb.app))) (rd_fieldAddr rfl) rfl (by kernel_rfl) ?_
    refine xm_take 3 (m' := 15) rfl (by kernel_rfl) (by first | exact Sb.refl | exact Sb.nil | (repeat (first | exact Sb.nil | exact Sb.refl | exact Sb.app0 | apply Sb.keep | apply Sb.keepApp | apply Sb.cons | apply Sb.app))) (rd_fieldAddr rfl) rfl (by kernel_rfl) ?_
    refine xm_take 4 (m' := 31) rfl (by kernel_rfl) (by first | exact Sb.refl | exact Sb.nil | (repeat (first | exact Sb.nil | exact Sb.refl | exact Sb.app0 | apply Sb.keep | apply Sb.keepApp | apply Sb.cons | apply Sb.app))) (rd_loadA (vs := gEnc (x.a.no, x.a.who, x.a.at')) rfl rfl (fun j u hj => (fr_g hfr j u hj).mono (by intro z hz; simp [hz]))) rfl (by kernel_rfl) ?_
    refine xm_take 5 (m' := 63) rfl (by kernel_rfl) (by first | exact Sb.refl | exact Sb.nil | (repeat (first | exact Sb.nil | exact Sb.refl | exact Sb.app0 | apply Sb.keep | apply Sb.keepApp | apply Sb.cons | apply Sb.app))) (rd_move rfl) rfl (by kernel_rfl) ?_
    refine xm_take 6 (m' := 127) rfl (by kernel_rfl) (by first | exact Sb.refl | exact Sb.nil | (repeat (first | exact Sb.nil | exact Sb.refl | exact Sb.app0 | apply Sb.keep | apply Sb.keepApp | apply Sb.cons | apply Sb.app))) (rd_nilCheck rfl) rfl (by kernel_rfl) ?_
    refine xm_take 7 (m' := 255) rfl (by kernel_rfl) (by first | exact Sb.refl | exact Sb.nil | (repeat (first | exact Sb.nil | exact Sb.refl | exact Sb.app0 | apply Sb.keep | apply Sb.keepApp | apply Sb.cons | apply Sb.app))) (rd_fieldAddr rfl) rfl (by kernel_rfl) ?_
    refine xm_take 8 (m' := 511) rfl (by kernel_rfl) (by first | exact Sb.refl | exact Sb.nil | (repeat (first | exact Sb.nil | exact Sb.refl | exact Sb.app0 | apply Sb.keep | apply Sb.keepApp | apply Sb.cons | apply Sb.app))) (rd_fieldAddr rfl) rfl (by kernel_rfl) ?_
    refine xm_take 9 (m' := 1023) rfl (by kernel_rfl) (by first | exact Sb.refl | exact Sb.nil | (repeat (first | exact Sb.nil | exact Sb.refl | exact Sb.app0 | apply Sb.keep | apply Sb.keepApp | apply Sb.cons | apply Sb.app))) (rd_load1 rfl ((hc 8 _ rfl).mono (by intro z hz; simp [hz]))) rfl (by kernel_rfl) ?_
    refine xm_one 10 (m' := 2047) rfl (by kernel_rfl) rfl (by kernel_rfl) (ef_storeB [] _ rfl rfl (by first | rfl | assumption) rfl rfl rfl ?_)
    refine ⟨(by first | exact Sb.refl | exact Sb.nil | (repeat (first | exact Sb.nil | exact Sb.refl | exact Sb.app0 | apply Sb.keep | apply Sb.keepApp | apply Sb.cons | apply Sb.app))), ?_⟩
    refine xm_take 11 (m' := 4095) rfl (by kernel_rfl) (by first | exact Sb.refl | exact Sb.nil | (repeat (first | exact Sb.nil | exact Sb.refl | exact Sb.app0 | apply Sb.keep | apply Sb.keepApp | apply Sb.cons | apply Sb.app))) (rd_assign rfl) rfl (by kernel_rfl) ?_
    refine xm_done (by kernel_rfl) ?_
    refine xq_seq ?_
    refine xc_ret ?_
  all_goals exact xq_retB2 (.inl rfl) Try.results29 rfl rfl Kn.o0 rfl (List.sublist_cons_self _ _) ⟨rfl, rfl⟩
theorem xf_Pending {W : World} {L : List Blk} (r : Nat) (x : Fm) (hfr : FR W L r x) : XF Try.prog W 46 #[.pointer (some ⟨r, 0, none⟩)] L (fun v L' => v = .bool x.a.pend ∧ L' = L) := by
  refine xf_enter (args := [_]) Try.func46 rfl Try.ntmps46 rfl ?_
  focus
    refine xc_seq ?_
    refine xc_region ?_
    refine xo_rd (rd_assign rfl) rfl ?_
    refine xo_nil ?_
    refine xq_seq ?_
    refine xc_seq ?_
    refine xc_region ?_
    refine xo_rd (rd_move rfl) rfl ?_
    refine xo_rd (rd_nenil rfl) rfl ?_
    refine xo_rd (rd_move rfl) rfl ?_
    refine xo_grd rfl rfl (rd_move rfl) rfl ?_
    refine xo_grd rfl rfl (rd_nilCheck rfl) rfl ?_
    refine xo_grd rfl rfl (rd_fieldAddr rfl) rfl ?_
    refine xo_grd rfl rfl (rd_fieldAddr rfl) rfl ?_
    refine xo_grd rfl rfl (rd_load1 rfl ((hfr.cl 7 _ rfl).mono (by intro z hz; simp [hz]))) rfl ?_
    refine xo_rd (rd_pickt rfl rfl) rfl ?_
    refine xo_rd (rd_assign rfl) rfl ?_
    refine xo_nil ?_
    refine xq_seq ?_
    refine xc_ret ?_
  exact xq_ret1 (.inl rfl) Try.results46 rfl ⟨rfl, rfl⟩
theorem xf_Waiting {W : World} {L : List Blk} (r : Nat) (x : Fm) (hfr : FR W L r x) (hl : x.a.wt.length ≤ 1000000) : XF Try.prog W 30 #[.pointer (some ⟨r, 0, none⟩)] L (fun v L' => ∃ q k l, v = .slice q x.a.wt.length k ∧ SlO 1 32 (.slice q x.a.wt.length k) x.a.wt.length (ints .u32 x.a.wt) l ∧ L' = l ++ L) := by
  refine xf_enter (args := [_]) Try.func30 rfl Try.ntmps30 rfl ?_
  focus
    refine xc_seq ?_
    refine xc_region ?_
    refine xo_rd (rd_assign rfl) rfl ?_
    refine xo_nil ?_
    refine xq_seq ?_
    refine xc_seq ?_
    refine xc_seq ?_
    refine xc_region ?_
    refine xo_rd (rd_move rfl) rfl ?_
    refine xo_rd (rd_eqnil rfl) rfl ?_
    refine xo_nil ?_
    refine xq_seq ?_
    refine xc_condf rfl ?_
    refine xc_skip ?_
    refine xq_seq ?_
    refine xc_seq ?_
    refine xc_region ?_
    refine xo_rd (rd_move rfl) rfl ?_
    refine xo_rd (rd_nilCheck rfl) rfl ?_
    refine xo_rd (rd_fieldAddr rfl) rfl ?_
    refine xo_rd (rd_load1 rfl ((hfr.cl 9 _ rfl).mono (by intro z hz; simp [hz]))) rfl ?_
    refine xo_ef rfl (ef_call rfl (XF.mono (xf_clone x.wp x.a.wt.length x.wc (ints .u32 x.a.wt) (by simp [ints]) (hfr.w.mono (by intro z hz; simp [hz])) (ints_one _ _) (by omega)) ?_))
    rintro v L' ⟨q, k, l, rfl, hO, hk, rfl⟩
    refine xo_rd (rd_assign rfl) rfl ?_
    refine xo_nil ?_
    refine xq_seq ?_
    refine xc_ret ?_
  exact xq_ret1 (.inl rfl) Try.results30 rfl ⟨q, k, l, rfl, hO, rfl⟩
def newFa (b s : Int) : Fa := ⟨b, s, [], false, 0, 0, 0, 0, false, [], []⟩
theorem xf_New {W : World} {L : List Blk} (b s : Int) (hb : 0 ≤ b ∧ b ≤ 32) (hs : 1 ≤ s) : XF Try.prog W 28 #[.int .i64 b, .int .u64 s] L (fun v L' => ∃ r, v = .tuple #[.pointer (some ⟨r, 0, none⟩), .int .i64 0] ∧ ∃ y : Fm, y.Ok ∧ y.a = newFa b s ∧ L' = y.blks r L) := by
  refine xf_enter (args := [_, _]) Try.func28 rfl Try.ntmps28 rfl ?_
  focus
    refine xc_seq ?_
    refine xc_region ?_
    refine xo_rd (rd_assign rfl) rfl ?_
    refine xo_rd (rd_assign rfl) rfl ?_
    refine xo_nil ?_
    refine xq_seq ?_
    refine xc_seq ?_
    refine xc_seq ?_
    refine xc_region ?_
    refine xo_rd (rd_move rfl) rfl ?_
    refine xo_rd (rd_lss rfl rfl) rfl ?_
    refine xo_rd (rd_move rfl) rfl ?_
    refine xo_dec 8 rfl (fun h1 => (by exfalso; omega)) (fun h1 => ?_)
    refine xo_grd rfl rfl (rd_move rfl) rfl ?_
    refine xo_grd rfl rfl (rd_gtr rfl rfl) rfl ?_
    refine xo_rd (rd_pickf rfl rfl) rfl ?_
    refine xo_rd (rd_move rfl) rfl ?_
    refine xo_dec 12 rfl (fun h2 => (by exfalso; omega)) (fun h2 => ?_)
    refine xo_grd rfl rfl (rd_move rfl) rfl ?_
    refine xo_grd rfl rfl (rd_lss rfl rfl) rfl ?_
    refine xo_rd (rd_pickf rfl rfl) rfl ?_
    refine xo_nil ?_
    refine xq_seq ?_
    refine xc_dec rfl (fun h3 => (by exfalso; omega)) (fun h3 => ?_)
    refine xc_skip ?_
    refine xq_seq ?_
    refine xc_seq ?_
    refine xc_region ?_
    refine xo_rd (rd_move rfl) rfl ?_
    refine xo_rd (rd_move rfl) rfl ?_
    refine xo_ef rfl (ef_makeMap fun r18 => ?_)
    refine xo_rd (rd_cast (v' := .agg (fcl b s r18 0 0 0 0 false false none 0 0 none 0 0).toArray) (rd_build (T := 98) rfl rfl rfl) (by kernel_rfl)) rfl ?_
    refine xo_ef rfl (ef_box rfl fun r20 => ?_)
    refine xo_rd (rd_assign rfl) rfl ?_
    refine xo_rd (rd_assign rfl) rfl ?_
    refine xo_nil ?_
    refine xq_seq ?_
    refine xc_ret ?_
  exact xq_ret2 (.inl rfl) Try.results28 rfl rfl ⟨r20, rfl, ⟨newFa b s, r18, .map #[] 0, none, 0, [], none, 0, []⟩, ⟨MpIs.empty, SlQ.nil, SlQ.nil, List.nodup_nil, hb, hb.1, Nat.zero_le _⟩, rfl, rfl⟩
theorem xf_NewE {W : World} {L : List Blk} (b s : Int) (hb : b < 0 ∨ 32 < b ∨ s < 1) : XF Try.prog W 28 #[.int .i64 b, .int .u64 s] L (fun v L' => v = .tuple #[.pointer none, .int .i64 2] ∧ L' = L) := by
  refine xf_enter (args := [_, _]) Try.func28 rfl Try.ntmps28 rfl ?_
  focus
    refine xc_seq ?_
    refine xc_region ?_
    refine xo_rd (rd_assign rfl) rfl ?_
    refine xo_rd (rd_assign rfl) rfl ?_
    refine xo_nil ?_
    refine xq_seq ?_
    refine xc_seq ?_
    refine xc_seq ?_
    refine xc_region ?_
    refine xo_rd (rd_move rfl) rfl ?_
    refine xo_rd (rd_lss rfl rfl) rfl ?_
    refine xo_rd (rd_move rfl) rfl ?_
    refine xo_dec 8 rfl (fun h1 => ?_) (fun h1 => ?_)
    refine xo_gskip rfl rfl rfl rfl ?_
    refine xo_gskip rfl rfl rfl rfl ?_
    refine xo_rd (rd_pickt rfl rfl) rfl ?_
    refine xo_rd (rd_move rfl) rfl ?_
    refine xo_gskip rfl rfl rfl rfl ?_
    refine xo_gskip rfl rfl rfl rfl ?_
    refine xo_rd (rd_pickt rfl rfl) rfl ?_
    refine xo_nil ?_
    refine xq_seq ?_
    refine xc_condt rfl ?_
    refine xc_seq ?_
    refine xc_region ?_
    refine xo_rd (rd_assign rfl) rfl ?_
    refine xo_rd (rd_assign rfl) rfl ?_
    refine xo_nil ?_
    refine xq_seq ?_
    refine xc_ret ?_
    refine xq_then_ret ?_
    rotate_left
    refine xo_grd rfl rfl (rd_move rfl) rfl ?_
    refine xo_grd rfl rfl (rd_gtr rfl rfl) rfl ?_
    refine xo_rd (rd_pickf rfl rfl) rfl ?_
    refine xo_rd (rd_move rfl) rfl ?_
    refine xo_dec 12 rfl (fun h2 => ?_) (fun h2 => ?_)
    refine xo_gskip rfl rfl rfl rfl ?_
    refine xo_gskip rfl rfl rfl rfl ?_
    refine xo_rd (rd_pickt rfl rfl) rfl ?_
    refine xo_nil ?_
    refine xq_seq ?_
    refine xc_condt rfl ?_
    refine xc_seq ?_
    refine xc_region ?_
    refine xo_rd (rd_assign rfl) rfl ?_
    refine xo_rd (rd_assign rfl) rfl ?_
    refine xo_nil ?_
    refine xq_seq ?_
    refine xc_ret ?_
    refine xq_then_ret ?_
    rotate_left
    refine xo_grd rfl rfl (rd_move rfl) rfl ?_
    refine xo_grd rfl rfl (rd_lss rfl rfl) rfl ?_
    refine xo_rd (rd_pickf rfl rfl) rfl ?_
    refine xo_nil ?_
    refine xq_seq ?_
    refine xc_dec rfl (fun h3 => ?_) (fun h3 => (by exfalso; omega))
    refine xc_seq ?_
    refine xc_region ?_
    refine xo_rd (rd_assign rfl) rfl ?_
    refine xo_rd (rd_assign rfl) rfl ?_
    refine xo_nil ?_
    refine xq_seq ?_
    refine xc_ret ?_
    refine xq_then_ret ?_
    rotate_left
  all_goals exact xq_ret2 (.inl rfl) Try.results28 rfl rfl ⟨rfl, rfl⟩
end Go.Proofs.Ytmdeajdaeihniaa.X
/-
  Chapter 13: a floor that is not there; the chapter's examples: walks of my own.
-/
namespace Go.Proofs.Ytmdeajdaeihniaa.X
open Go Go.RowKit
set_option linter.unusedVariables false
set_option linter.unusedSimpArgs false
def msG : List (String × Nat × Nat) := [("No", 29, 0), ("Who", 32, 1), ("At", 29, 2)]
theorem flatG (a b : Int × Int × Int) : FlatV Try.prog (gEnc a).toArray (gEnc b).toArray msG (gEnc a) (gEnc b) :=
  .int (by decide) rfl rfl (.int (by decide) rfl rfl (.int (by decide) rfl rfl .nil))
theorem gEnc_inj (a b : Int × Int × Int) : decide (a = b) = true ↔ gEnc a = gEnc b := by
  obtain ⟨a0, a1, a2⟩ := a
  obtain ⟨b0, b1, b2⟩ := b
  simp [gEnc]
theorem eqsG (a b : Int × Int × Int) : EqS Try.prog 39 (gEnc a) (gEnc b) (decide (a = b)) := .of msG (by kernel_rfl) (by kernel_rfl) (by kernel_rfl) (by kernel_rfl) (flatG a b) (gEnc_inj a b)
theorem xf_JoinN {W : World} {L : List Blk} (w : Int) (m : Bool) : XF Try.prog W 54 #[.pointer none, .int .u32 w, .bool m] L (fun v L' => v = .int .i64 1 ∧ L' = L) := by
  refine xf_enter (args := [_, _, _]) Try.func54 rfl Try.ntmps54 rfl ?_
  focus
    refine xc_seq ?_
    refine xc_region ?_
    refine xo_rd (rd_assign rfl) rfl ?_
    refine xo_nil ?_
    refine xq_seq ?_
    refine xc_seq ?_
    refine xc_seq ?_
    refine xc_region ?_
    refine xo_rd (rd_move rfl) rfl ?_
    refine xo_rd (rd_move rfl) rfl ?_
    refine xo_ef rfl (ef_buildL (T := 75) (len := 1) (s := 1) (cells := (ints .u32 [w]).toArray) rfl (by decide) (by decide) (by kernel_rfl) fun r10 => ?_)
    refine xo_ef rfl (ef_call rfl (XF.mono (xf_memberN _ _ _) ?_))
    rintro v L' ⟨rfl, rfl⟩
    refine xo_rd (rd_assign rfl) rfl ?_
    refine xo_nil ?_
    refine xq_seq ?_
    refine xc_block ?_
    refine xc_seq ?_
    refine xc_region ?_
    refine xo_rd (rd_move rfl) rfl ?_
    refine xo_rd (rd_eql rfl rfl) rfl ?_
    refine xo_rd (rd_assign rfl) rfl ?_
    refine xo_nil ?_
    refine xq_seq ?_
    refine xc_condt rfl ?_
    refine xc_seq ?_
    refine xc_region ?_
    refine xo_rd (rd_move rfl) rfl ?_
    refine xo_rd (rd_assign rfl) rfl ?_
    refine xo_nil ?_
    refine xq_seq ?_
    refine xc_ret ?_
    refine xq_block_ret ?_
    refine xq_then_ret ?_
  exact xq_sub (List.sublist_append_right [_] _) (xq_ret1 (.inl rfl) Try.results54 rfl ⟨rfl, rfl⟩)
theorem xf_LeaveN {W : World} {L : List Blk} (w now : Int) : XF Try.prog W 49 #[.pointer none, .int .u32 w, .int .u64 now] L (fun v L' => v = .int .i64 1 ∧ L' = L) := by
  refine xf_enter (args := [_, _, _]) Try.func49 rfl Try.ntmps49 rfl ?_
  focus
    refine xc_seq ?_
    refine xc_region ?_
    refine xo_ef rfl (ef_box rfl fun r4 => ?_)
    refine xo_rd (rd_assign rfl) rfl ?_
    refine xo_nil ?_
    refine xq_seq ?_
    refine xc_seq ?_
    refine xc_seq ?_
    refine xc_region ?_
    refine xo_rd (rd_move rfl) rfl ?_
    refine xo_rd (rd_load1 rfl (Cl.o0 rfl)) rfl ?_
    refine xo_ef rfl (ef_buildL (T := 75) (len := 1) (s := 1) (cells := (ints .u32 [w]).toArray) rfl (by decide) (by decide) (by kernel_rfl) fun r10 => ?_)
    refine xo_ef rfl (ef_call rfl (XF.mono (xf_memberN _ _ _) ?_))
    rintro v L' ⟨rfl, rfl⟩
    refine xo_rd (rd_assign rfl) rfl ?_
    refine xo_nil ?_
    refine xq_seq ?_
    refine xc_seq ?_
    refine xc_region ?_
    refine xo_rd (rd_move rfl) rfl ?_
    refine xo_rd (rd_neq rfl rfl) rfl ?_
    refine xo_nil ?_
    refine xq_seq ?_
    refine xc_condt rfl ?_
    refine xc_seq ?_
    refine xc_region ?_
    refine xo_rd (rd_move rfl) rfl ?_
    refine xo_rd (rd_assign rfl) rfl ?_
    refine xo_nil ?_
    refine xq_seq ?_
    refine xc_ret ?_
    refine xq_then_ret ?_
  exact xq_sub (List.sublist_append_right [_, _] _) (xq_ret1 (.inl rfl) Try.results49 rfl ⟨rfl, rfl⟩)
theorem xf_RequestN {W : World} {L : List Blk} (w now : Int) : XF Try.prog W 47 #[.pointer none, .int .u32 w, .int .u64 now] L (fun v L' => v = .int .i64 1 ∧ L' = L) := by
  refine xf_enter (args := [_, _, _]) Try.func47 rfl Try.ntmps47 rfl ?_
  focus
    refine xc_seq ?_
    refine xc_region ?_
    refine xo_rd (rd_assign rfl) rfl ?_
    refine xo_nil ?_
    refine xq_seq ?_
    refine xc_seq ?_
    refine xc_region ?_
    refine xo_rd (rd_move rfl) rfl ?_
    refine xo_rd (rd_move rfl) rfl ?_
    refine xo_ef rfl (ef_buildL (T := 75) (len := 1) (s := 1) (cells := (ints .u32 [w]).toArray) rfl (by decide) (by decide) (by kernel_rfl) fun r10 => ?_)
    refine xo_ef rfl (ef_call rfl (XF.mono (xf_memberN _ _ _) ?_))
    rintro v L' ⟨rfl, rfl⟩
    refine xo_rd (rd_assign rfl) rfl ?_
    refine xo_nil ?_
    refine xq_seq ?_
    refine xc_seq ?_
    refine xc_block ?_
    refine xc_seq ?_
    refine xc_region ?_
    refine xo_rd (rd_move rfl) rfl ?_
    refine xo_rd (rd_neq rfl rfl) rfl ?_
    refine xo_rd (rd_assign rfl) rfl ?_
    refine xo_nil ?_
    refine xq_seq ?_
    refine xc_condt rfl ?_
    refine xc_seq ?_
    refine xc_region ?_
    refine xo_rd (rd_move rfl) rfl ?_
    refine xo_rd (rd_assign rfl) rfl ?_
    refine xo_nil ?_
    refine xq_seq ?_
    refine xc_ret ?_
    refine xq_block_ret ?_
    refine xq_then_ret ?_
  exact xq_sub (List.sublist_append_right [_] _) (xq_ret1 (.inl rfl) Try.results47 rfl ⟨rfl, rfl⟩)
theorem xf_ReleaseN {W : World} {L : List Blk} (w now : Int) : XF Try.prog W 55 #[.pointer none, .int .u32 w, .int .u64 now] L (fun v L' => v = .int .i64 1 ∧ L' = L) := by
  refine xf_enter (args := [_, _, _]) Try.func55 rfl Try.ntmps55 rfl ?_
  focus
    refine xc_seq ?_
    refine xc_region ?_
    refine xo_rd (rd_assign rfl) rfl ?_
    refine xo_nil ?_
    refine xq_seq ?_
    refine xc_seq ?_
    refine xc_region ?_
    refine xo_rd (rd_move rfl) rfl ?_
    refine xo_rd (rd_move rfl) rfl ?_
    refine xo_ef rfl (ef_buildL (T := 75) (len := 1) (s := 1) (cells := (ints .u32 [w]).toArray) rfl (by decide) (by decide) (by kernel_rfl) fun r10 => ?_)
    refine xo_ef rfl (ef_call rfl (XF.mono (xf_memberN _ _ _) ?_))
    rintro v L' ⟨rfl, rfl⟩
    refine xo_rd (rd_assign rfl) rfl ?_
    refine xo_nil ?_
    refine xq_seq ?_
    refine xc_seq ?_
    refine xc_block ?_
    refine xc_seq ?_
    refine xc_region ?_
    refine xo_rd (rd_move rfl) rfl ?_
    refine xo_rd (rd_neq rfl rfl) rfl ?_
    refine xo_rd (rd_assign rfl) rfl ?_
    refine xo_nil ?_
    refine xq_seq ?_
    refine xc_condt rfl ?_
    refine xc_seq ?_
    refine xc_region ?_
    refine xo_rd (rd_move rfl) rfl ?_
    refine xo_rd (rd_assign rfl) rfl ?_
    refine xo_nil ?_
    refine xq_seq ?_
    refine xc_ret ?_
    refine xq_block_ret ?_
    refine xq_then_ret ?_
  exact xq_sub (List.sublist_append_right [_] _) (xq_ret1 (.inl rfl) Try.results55 rfl ⟨rfl, rfl⟩)
theorem xf_RevokeN {W : World} {L : List Blk} (b w now : Int) : XF Try.prog W 56 #[.pointer none, .int .u32 b, .int .u32 w, .int .u64 now] L (fun v L' => v = .int .i64 1 ∧ L' = L) := by
  refine xf_enter (args := [_, _, _, _]) Try.func56 rfl Try.ntmps56 rfl ?_
  focus
    refine xc_seq ?_
    refine xc_region ?_
    refine xo_rd (rd_assign rfl) rfl ?_
    refine xo_nil ?_
    refine xq_seq ?_
    refine xc_seq ?_
    refine xc_region ?_
    refine xo_rd (rd_move rfl) rfl ?_
    refine xo_rd (rd_move rfl) rfl ?_
    refine xo_rd (rd_move rfl) rfl ?_
    refine xo_ef rfl (ef_buildL (T := 75) (len := 2) (s := 1) (cells := (ints .u32 [b, w]).toArray) rfl (by decide) (by decide) (by kernel_rfl) fun r13 => ?_)
    refine xo_ef rfl (ef_call rfl (XF.mono (xf_memberN _ _ _) ?_))
    rintro v L' ⟨rfl, rfl⟩
    refine xo_rd (rd_assign rfl) rfl ?_
    refine xo_nil ?_
    refine xq_seq ?_
    refine xc_seq ?_
    refine xc_block ?_
    refine xc_seq ?_
    refine xc_region ?_
    refine xo_rd (rd_move rfl) rfl ?_
    refine xo_rd (rd_neq rfl rfl) rfl ?_
    refine xo_rd (rd_assign rfl) rfl ?_
    refine xo_nil ?_
    refine xq_seq ?_
    refine xc_condt rfl ?_
    refine xc_seq ?_
    refine xc_region ?_
    refine xo_rd (rd_move rfl) rfl ?_
    refine xo_rd (rd_assign rfl) rfl ?_
    refine xo_nil ?_
    refine xq_seq ?_
    refine xc_ret ?_
    refine xq_block_ret ?_
    refine xq_then_ret ?_
  exact xq_sub (List.sublist_append_right [_] _) (xq_ret1 (.inl rfl) Try.results56 rfl ⟨rfl, rfl⟩)
theorem xf_HeardN {W : World} {L : List Blk} (w now : Int) (k : Bool) : XF Try.prog W 44 #[.pointer none, .int .u32 w, .int .u64 now, .bool k] L (fun v L' => v = .bool false ∧ L' = L) := by
  refine xf_enter (args := [_, _, _, _]) Try.func44 rfl Try.ntmps44 rfl ?_
  focus
    refine xc_seq ?_
    refine xc_region ?_
    refine xo_rd (rd_assign rfl) rfl ?_
    refine xo_nil ?_
    refine xq_seq ?_
    refine xc_seq ?_
    refine xc_seq ?_
    refine xc_region ?_
    refine xo_rd (rd_move rfl) rfl ?_
    refine xo_rd (rd_eqnil rfl) rfl ?_
    refine xo_rd (rd_move rfl) rfl ?_
    refine xo_gskip rfl rfl rfl rfl ?_
    refine xo_gskip rfl rfl rfl rfl ?_
    refine xo_gskip rfl rfl rfl rfl ?_
    refine xo_gskip rfl rfl rfl rfl ?_
    refine xo_rd (rd_pickt rfl rfl) rfl ?_
    refine xo_nil ?_
    refine xq_seq ?_
    refine xc_condt rfl ?_
    refine xc_seq ?_
    refine xc_region ?_
    refine xo_rd (rd_assign rfl) rfl ?_
    refine xo_nil ?_
    refine xq_seq ?_
    refine xc_ret ?_
    refine xq_then_ret ?_
  exact xq_ret1 (.inl rfl) Try.results44 rfl ⟨rfl, rfl⟩
theorem xf_TickN {W : World} {L : List Blk} (now : Int) : XF Try.prog W 45 #[.pointer none, .int .u64 now] L (fun v L' => v = .bool false ∧ L' = L) := by
  refine xf_enter (args := [_, _]) Try.func45 rfl Try.ntmps45 rfl ?_
  focus
    refine xc_seq ?_
    refine xc_region ?_
    refine xo_rd (rd_assign rfl) rfl ?_
    refine xo_nil ?_
    refine xq_seq ?_
    refine xc_seq ?_
    refine xc_seq ?_
    refine xc_drawML [0, 1, 2, 4, 12, 20, 36, 68, 132, 260, 516, 1024, 1024, 5120, 9216, 17408, 33792, 68608, 132096, 263168, 524288, 524288, 2621440, 4718592, 8912896, 17301504, 35127296, 524288, 134742016, 268959744, 537395200, 1141374976, 2148007936] [0, 1, 2, 4, 12, 20, 36, 68, 132, 260, 516, 1024, 1024, 5120, 9216, 17408, 33792, 68608, 132096, 263168, 524288, 524288, 2621440, 4718592, 8912896, 17301504, 35127296, 524288, 134742016, 268959744, 537395200, 1141374976, 2148007936] (by kernel_rfl) (by kernel_rfl) (by kernel_rfl) ?_
    refine xm_take 0 (m' := 1) rfl (by kernel_rfl) (by first | exact Sb.refl | exact Sb.nil | (repeat (first | exact Sb.nil | exact Sb.refl | exact Sb.app0 | apply Sb.keep | apply Sb.keepApp | apply Sb.cons | apply Sb.app))) (rd_move rfl) rfl (by kernel_rfl) ?_
    refine xm_take 1 (m' := 3) rfl (by kernel_rfl) (by first | exact Sb.refl | exact Sb.nil | (repeat (first | exact Sb.nil | exact Sb.refl | exact Sb.app0 | apply Sb.keep | apply Sb.keepApp | apply Sb.cons | apply Sb.app))) (rd_eqnil rfl) rfl (by kernel_rfl) ?_
    refine xm_take 2 (m' := 7) rfl (by kernel_rfl) (by first | exact Sb.refl | exact Sb.nil | (repeat (first | exact Sb.nil | exact Sb.refl | exact Sb.app0 | apply Sb.keep | apply Sb.keepApp | apply Sb.cons | apply Sb.app))) (rd_move rfl) rfl (by kernel_rfl) ?_
    refine xm_gskip 3 (m' := 15) rfl (by kernel_rfl) (by first | exact Sb.refl | exact Sb.nil | (repeat (first | exact Sb.nil | exact Sb.refl | exact Sb.app0 | apply Sb.keep | apply Sb.keepApp | apply Sb.cons | apply Sb.app))) rfl rfl rfl rfl (by kernel_rfl) ?_
    refine xm_gskip 4 (m' := 31) rfl (by kernel_rfl) (by first | exact Sb.refl | exact Sb.nil | (repeat (first | exact Sb.nil | exact Sb.refl | exact Sb.app0 | apply Sb.keep | apply Sb.keepApp | apply Sb.cons | apply Sb.app))) rfl rfl rfl rfl (by kernel_rfl) ?_
    refine xm_gskip 5 (m' := 63) rfl (by kernel_rfl) (by first | exact Sb.refl | exact Sb.nil | (repeat (first | exact Sb.nil | exact Sb.refl | exact Sb.app0 | apply Sb.keep | apply Sb.keepApp | apply Sb.cons | apply Sb.app))) rfl rfl rfl rfl (by kernel_rfl) ?_
    refine xm_gskip 6 (m' := 127) rfl (by kernel_rfl) (by first | exact Sb.refl | exact Sb.nil | (repeat (first | exact Sb.nil | exact Sb.refl | exact Sb.app0 | apply Sb.keep | apply Sb.keepApp | apply Sb.cons | apply Sb.app))) rfl rfl rfl rfl (by kernel_rfl) ?_
    refine xm_gskip 7 (m' := 255) rfl (by kernel_rfl) (by first | exact Sb.refl | exact Sb.nil | (repeat (first | exact Sb.nil | exact Sb.refl | exact Sb.app0 | apply Sb.keep | apply Sb.keepApp | apply Sb.cons | apply Sb.app))) rfl rfl rfl rfl (by kernel_rfl) ?_
    refine xm_gskip 8 (m' := 511) rfl (by kernel_rfl) (by first | exact Sb.refl | exact Sb.nil | (repeat (first | exact Sb.nil | exact Sb.refl | exact Sb.app0 | apply Sb.keep | apply Sb.keepApp | apply Sb.cons | apply Sb.app))) rfl rfl rfl rfl (by kernel_rfl) ?_
    refine xm_take 9 (m' := 1023) rfl (by kernel_rfl) (by first | exact Sb.refl | exact Sb.nil | (repeat (first | exact Sb.nil | exact Sb.refl | exact Sb.app0 | apply Sb.keep | apply Sb.keepApp | apply Sb.cons | apply Sb.app))) (rd_pickt rfl rfl) rfl (by kernel_rfl) ?_
    refine xm_take 10 (m' := 2047) rfl (by kernel_rfl) (by first | exact Sb.refl | exact Sb.nil | (repeat (first | exact Sb.nil | exact Sb.refl | exact Sb.app0 | apply Sb.keep | apply Sb.keepApp | apply Sb.cons | apply Sb.app))) (rd_move rfl) rfl (by kernel_rfl) ?_
    refine xm_gskip 11 (m' := 4095) rfl (by kernel_rfl) (by first | exact Sb.refl | exact Sb.nil | (repeat (first | exact Sb.nil | exact Sb.refl | exact Sb.app0 | apply Sb.keep | apply Sb.keepApp | apply Sb.cons | apply Sb.app))) rfl rfl rfl rfl (by kernel_rfl) ?_
    refine xm_gskip 12 (m' := 8191) rfl (by kernel_rfl) (by first | exact Sb.refl | exact Sb.nil | (repeat (first | exact Sb.nil | exact Sb.refl | exact Sb.app0 | apply Sb.keep | apply Sb.keepApp | apply Sb.cons | apply Sb.app))) rfl rfl rfl rfl (by kernel_rfl) ?_
    refine xm_gskip 13 (m' := 16383) rfl (by kernel_rfl) (by first | exact Sb.refl | exact Sb.nil | (repeat (first | exact Sb.nil | exact Sb.refl | exact Sb.app0 | apply Sb.keep | apply Sb.keepApp | apply Sb.cons | apply Sb.app))) rfl rfl rfl rfl (by kernel_rfl) ?_
    refine xm_gskip 14 (m' := 32767) rfl (by kernel_rfl) (by first | exact Sb.refl | exact Sb.nil | (repeat (first | exact Sb.nil | exact Sb.refl | exact Sb.app0 | apply Sb.keep | apply Sb.keepApp | apply Sb.cons | apply Sb.app))) rfl rfl rfl rfl (by kernel_rfl) ?_
    refine xm_gskip 15 (m' := 65535) rfl (by kernel_rfl) (by first | exact Sb.refl | exact Sb.nil | (repeat (first | exact Sb.nil | exact Sb.refl | exact Sb.app0 | apply Sb.keep | apply Sb.keepApp | apply Sb.cons | apply Sb.app))) rfl rfl rfl rfl (by kernel_rfl) ?_
    refine xm_gskip 16 (m' := 131071) rfl (by kernel_rfl) (by first | exact Sb.refl | exact Sb.nil | (repeat (first | exact Sb.nil | exact Sb.refl | exact Sb.app0 | apply Sb.keep | apply Sb.keepApp | apply Sb.cons | apply Sb.app))) rfl rfl rfl rfl (by kernel_rfl) ?_
    refine xm_gskip 17 (m' := 262143) rfl (by kernel_rfl) (by first | exact Sb.refl | exact Sb.nil | (repeat (first | exact Sb.nil | exact Sb.refl | exact Sb.app0 | apply Sb.keep | apply Sb.keepApp | apply Sb.cons | apply Sb.app))) rfl rfl rfl rfl (by kernel_rfl) ?_
    refine xm_take 18 (m' := 524287) rfl (by kernel_rfl) (by first | exact Sb.refl | exact Sb.nil | (repeat (first | exact Sb.nil | exact Sb.refl | exact Sb.app0 | apply Sb.keep | apply Sb.keepApp | apply Sb.cons | apply Sb.app))) (rd_pickt rfl rfl) rfl (by kernel_rfl) ?_
    refine xm_take 19 (m' := 1048575) rfl (by kernel_rfl) (by first | exact Sb.refl | exact Sb.nil | (repeat (first | exact Sb.nil | exact Sb.refl | exact Sb.app0 | apply Sb.keep | apply Sb.keepApp | apply Sb.cons | apply Sb.app))) (rd_move rfl) rfl (by kernel_rfl) ?_
    refine xm_gskip 20 (m' := 2097151) rfl (by kernel_rfl) (by first | exact Sb.refl | exact Sb.nil | (repeat (first | exact Sb.nil | exact Sb.refl | exact Sb.app0 | apply Sb.keep | apply Sb.keepApp | apply Sb.cons | apply Sb.app))) rfl rfl rfl rfl (by kernel_rfl) ?_
    refine xm_gskip 21 (m' := 4194303) rfl (by kernel_rfl) (by first | exact Sb.refl | exact Sb.nil | (repeat (first | exact Sb.nil | exact Sb.refl | exact Sb.app0 | apply Sb.keep | apply Sb.keepApp | apply Sb.cons | apply Sb.app))) rfl rfl rfl rfl (by kernel_rfl) ?_
    refine xm_gskip 22 (m' := 8388607) rfl (by kernel_rfl) (by first | exact Sb.refl | exact Sb.nil | (repeat (first | exact Sb.nil | exact Sb.refl | exact Sb.app0 | apply Sb.keep | apply Sb.keepApp | apply Sb.cons | apply Sb.app))) rfl rfl rfl rfl (by kernel_rfl) ?_
    refine xm_gskip 23 (m' := 16777215) rfl (by kernel_rfl) (by first | exact Sb.refl | exact Sb.nil | (repeat (first | exact Sb.nil | exact Sb.refl | exact Sb.app0 | apply Sb.keep | apply Sb.keepApp | apply Sb.cons | apply Sb.app))) rfl rfl rfl rfl (by kernel_rfl) ?_
    refine xm_gskip 24 (m' := 33554431) rfl (by kernel_rfl) (by first | exact Sb.refl | exact Sb.nil | (repeat (first | exact Sb.nil | exact Sb.refl | exact Sb.app0 | apply Sb.keep | apply Sb.keepApp | apply Sb.cons | apply Sb.app))) rfl rfl rfl rfl (by kernel_rfl) ?_
    refine xm_gskip 25 (m' := 67108863) rfl (by kernel_rfl) (by first | exact Sb.refl | exact Sb.nil | (repeat (first | exact Sb.nil | exact Sb.refl | exact Sb.app0 | apply Sb.keep | apply Sb.keepApp | apply Sb.cons | apply Sb.app))) rfl rfl rfl rfl (by kernel_rfl) ?_
    refine xm_gskip 26 (m' := 134217727) rfl (by kernel_rfl) (by first | exact Sb.refl | exact Sb.nil | (repeat (first | exact Sb.nil | exact Sb.refl | exact Sb.app0 | apply Sb.keep | apply Sb.keepApp | apply Sb.cons | apply Sb.app))) rfl rfl rfl rfl (by kernel_rfl) ?_
    refine xm_gskip 27 (m' := 268435455) rfl (by kernel_rfl) (by first | exact Sb.refl | exact Sb.nil | (repeat (first | exact Sb.nil | exact Sb.refl | exact Sb.app0 | apply Sb.keep | apply Sb.keepApp | apply Sb.cons | apply Sb.app))) rfl rfl rfl rfl (by kernel_rfl) ?_
    refine xm_gskip 28 (m' := 536870911) rfl (by kernel_rfl) (by first | exact Sb.refl | exact Sb.nil | (repeat (first | exact Sb.nil | exact Sb.refl | exact Sb.app0 | apply Sb.keep | apply Sb.keepApp | apply Sb.cons | apply Sb.app))) rfl rfl rfl rfl (by kernel_rfl) ?_
    refine xm_gskip 29 (m' := 1073741823) rfl (by kernel_rfl) (by first | exact Sb.refl | exact Sb.nil | (repeat (first | exact Sb.nil | exact Sb.refl | exact Sb.app0 | apply Sb.keep | apply Sb.keepApp | apply Sb.cons | apply Sb.app))) rfl rfl rfl rfl (by kernel_rfl) ?_
    refine xm_gskip 30 (m' := 2147483647) rfl (by kernel_rfl) (by first | exact Sb.refl | exact Sb.nil | (repeat (first | exact Sb.nil | exact Sb.refl | exact Sb.app0 | apply Sb.keep | apply Sb.keepApp | apply Sb.cons | apply Sb.app))) rfl rfl rfl rfl (by kernel_rfl) ?_
    refine xm_gskip 31 (m' := 4294967295) rfl (by kernel_rfl) (by first | exact Sb.refl | exact Sb.nil | (repeat (first | exact Sb.nil | exact Sb.refl | exact Sb.app0 | apply Sb.keep | apply Sb.keepApp | apply Sb.cons | apply Sb.app))) rfl rfl rfl rfl (by kernel_rfl) ?_
    refine xm_take 32 (m' := 8589934591) rfl (by kernel_rfl) (by first | exact Sb.refl | exact Sb.nil | (repeat (first | exact Sb.nil | exact Sb.refl | exact Sb.app0 | apply Sb.keep | apply Sb.keepApp | apply Sb.cons | apply Sb.app))) (rd_pickt rfl rfl) rfl (by kernel_rfl) ?_
    refine xm_done (by kernel_rfl) ?_
    refine xq_seq ?_
    refine xc_condt rfl ?_
    refine xc_seq ?_
    refine xc_region ?_
    refine xo_rd (rd_assign rfl) rfl ?_
    refine xo_nil ?_
    refine xq_seq ?_
    refine xc_ret ?_
    refine xq_then_ret ?_
  exact xq_ret1 (.inl rfl) Try.results45 rfl ⟨rfl, rfl⟩
theorem xf_HolderN {W : World} {L : List Blk} : XF Try.prog W 29 #[.pointer none] L (fun v L' => v = .tuple #[.agg (gEnc (0, 0, 0)).toArray, .bool false] ∧ L' = L) := by
  refine xf_enter (args := [_]) Try.func29 rfl Try.ntmps29 rfl ?_
  focus
    refine xc_seq ?_
    refine xc_region ?_
    refine xo_ef rfl (ef_alloc fun r2 => ?_)
    refine xo_rd (rd_assign rfl) rfl ?_
    refine xo_nil ?_
    refine xq_seq ?_
    refine xc_seq ?_
    refine xc_seq ?_
    refine xc_region ?_
    refine xo_rd (rd_move rfl) rfl ?_
    refine xo_rd (rd_eqnil rfl) rfl ?_
    refine xo_nil ?_
    refine xq_seq ?_
    refine xc_condt rfl ?_
    refine xc_seq ?_
    refine xc_region ?_
    refine xo_rd (rd_cast (v' := .agg (gEnc (0, 0, 0)).toArray) (rd_build (T := 39) rfl rfl rfl) (by kernel_rfl)) rfl ?_
    refine xo_ef rfl (ef_storeB [] _ rfl rfl (by first | rfl | assumption) rfl rfl rfl ?_)
    refine xo_rd (rd_assign rfl) rfl ?_
    refine xo_nil ?_
    refine xq_seq ?_
    refine xc_ret ?_
    refine xq_then_ret ?_
  exact xq_retB2 (.inl rfl) Try.results29 rfl rfl Kn.o0 rfl (List.sublist_cons_self _ _) ⟨rfl, rfl⟩
theorem xf_PendingN {W : World} {L : List Blk} : XF Try.prog W 46 #[.pointer none] L (fun v L' => v = .bool false ∧ L' = L) := by
  refine xf_enter (args := [_]) Try.func46 rfl Try.ntmps46 rfl ?_
  focus
    refine xc_seq ?_
    refine xc_region ?_
    refine xo_rd (rd_assign rfl) rfl ?_
    refine xo_nil ?_
    refine xq_seq ?_
    refine xc_seq ?_
    refine xc_region ?_
    refine xo_rd (rd_move rfl) rfl ?_
    refine xo_rd (rd_nenil rfl) rfl ?_
    refine xo_rd (rd_move rfl) rfl ?_
    refine xo_gskip rfl rfl rfl rfl ?_
    refine xo_gskip rfl rfl rfl rfl ?_
    refine xo_gskip rfl rfl rfl rfl ?_
    refine xo_gskip rfl rfl rfl rfl ?_
    refine xo_gskip rfl rfl rfl rfl ?_
    refine xo_rd (rd_pickf rfl rfl) rfl ?_
    refine xo_rd (rd_assign rfl) rfl ?_
    refine xo_nil ?_
    refine xq_seq ?_
    refine xc_ret ?_
  exact xq_ret1 (.inl rfl) Try.results46 rfl ⟨rfl, rfl⟩
theorem xf_WaitingN {W : World} {L : List Blk} : XF Try.prog W 30 #[.pointer none] L (fun v L' => v = .slice none 0 0 ∧ L' = L) := by
  refine xf_enter (args := [_]) Try.func30 rfl Try.ntmps30 rfl ?_
  focus
    refine xc_seq ?_
    refine xc_region ?_
    refine xo_rd (rd_assign rfl) rfl ?_
    refine xo_nil ?_
    refine xq_seq ?_
    refine xc_seq ?_
    refine xc_seq ?_
    refine xc_region ?_
    refine xo_rd (rd_move rfl) rfl ?_
    refine xo_rd (rd_eqnil rfl) rfl ?_
    refine xo_nil ?_
    refine xq_seq ?_
    refine xc_condt rfl ?_
    refine xc_seq ?_
    refine xc_region ?_
    refine xo_rd (rd_assign rfl) rfl ?_
    refine xo_nil ?_
    refine xq_seq ?_
    refine xc_ret ?_
    refine xq_then_ret ?_
  exact xq_ret1 (.inl rfl) Try.results30 rfl ⟨rfl, rfl⟩
theorem xf_JoinK {W : World} {L : List Blk} (r : Nat) (x : Fm) (hx : x.Ok) (w : Int) (m : Bool) (e : Int) (f : Fa) (h1 : joinE x.a w = e) (h2 : joinF x.a w m = f) : XF Try.prog W 54 #[.pointer (some ⟨r, 0, none⟩), .int .u32 w, .bool m] (x.blks r L) (fun v L' => v = .int .i64 e ∧ ∃ y : Fm, y.Ok ∧ y.a = f ∧ L' = y.blks r L) := by
  subst h1 h2; exact xf_Join r x hx w m
theorem xf_RequestK {W : World} {L : List Blk} (r : Nat) (x : Fm) (hx : x.Ok) (w now : Int) (e : Int) (f : Fa) (h1 : reqE x.a w = e) (h2 : reqF x.a w now = f) (hg : x.a.gs.length ≤ 1000000) : XF Try.prog W 47 #[.pointer (some ⟨r, 0, none⟩), .int .u32 w, .int .u64 now] (x.blks r L) (fun v L' => v = .int .i64 e ∧ ∃ y : Fm, y.Ok ∧ y.a = f ∧ L' = y.blks r L) := by
  subst h1 h2; exact xf_Request r x hx w now hg
theorem xf_RevokeK {W : World} {L : List Blk} (r : Nat) (x : Fm) (hx : x.Ok) (b w now : Int) (e : Int) (f : Fa) (h1 : revE x.a b w = e) (h2 : revF x.a b w now = f) (hg : x.a.gs.length ≤ 1000000) : XF Try.prog W 56 #[.pointer (some ⟨r, 0, none⟩), .int .u32 b, .int .u32 w, .int .u64 now] (x.blks r L) (fun v L' => v = .int .i64 e ∧ ∃ y : Fm, y.Ok ∧ y.a = f ∧ L' = y.blks r L) := by
  subst h1 h2; exact xf_Revoke r x hx b w now hg
theorem xf_TickK {W : World} {L : List Blk} (r : Nat) (x : Fm) (hx : x.Ok) (now : Int) (e : Bool) (f : Fa) (h1 : tickA x.a now = e) (h2 : tickF x.a now = f) (hg : x.a.gs.length ≤ 1000000) (h0 : 0 ≤ x.a.heard) (hn : now ≤ 18446744073709551615) : XF Try.prog W 45 #[.pointer (some ⟨r, 0, none⟩), .int .u64 now] (x.blks r L) (fun v L' => v = .bool e ∧ ∃ y : Fm, y.Ok ∧ y.a = f ∧ L' = y.blks r L) := by
  subst h1 h2; exact xf_Tick r x hx now hg h0 hn
theorem xf_HolderK {W : World} {L : List Blk} (r : Nat) (x : Fm) (hx : x.Ok) (g : Int × Int × Int) (b : Bool) (h1 : (x.a.no, x.a.who, x.a.at') = g) (h2 : x.a.held = b) : XF Try.prog W 29 #[.pointer (some ⟨r, 0, none⟩)] (x.blks r L) (fun v L' => v = .tuple #[.agg (gEnc g).toArray, .bool b] ∧ L' = x.blks r L) := by
  subst h1 h2; exact xf_Holder r x (hx.fr0 (L := L) fun _ h => h)
theorem perm_blk {a b : Blk} (A w g L : List Blk) : (A ++ (a :: b :: (w ++ (g ++ L)))).Perm (a :: b :: (w ++ (g ++ (A ++ L)))) := (by classical exact List.perm_iff_count.2 fun a => by simp only [List.append_eq, List.count_append, List.count_cons, List.count_nil, List.cons_append, List.nil_append, List.flatMap_append, List.flatMap_cons, List.flatMap_nil, List.append_nil]; omega)
theorem Fm.blks_perm (r : Nat) (x : Fm) (A L : List Blk) : (A ++ x.blks r L).Perm (x.blks r (A ++ L)) := perm_blk A x.wl x.gl L
theorem Fm.blks_sub (r : Nat) (x : Fm) (L : List Blk) : L.Sublist (x.blks r L) := ((((List.sublist_append_right x.gl L).trans (List.sublist_append_right x.wl _)).trans (List.sublist_cons_self _ _)).trans (List.sublist_cons_self _ _))
def wF0 : Fa := newFa 1 5
def wF3 : Fa := joinF (joinF (joinF wF0 1 false) 2 false) 3 true
def wF5 : Fa := reqF (reqF wF3 1 0) 2 0
def wF6 : Fa := revF wF5 3 1 2
end Go.Proofs.Ytmdeajdaeihniaa.X
/-
  Members, and when two are the same. No condition.
-/
namespace Go.Proofs.Ytmdeajdaeihniaa.X
open Go Go.RowKit
set_option linter.unusedVariables false
set_option linter.unusedSimpArgs false
structure Mb where
  id : Int
  content : Int
  camera : Int
  mod : Bool
deriving DecidableEq
def Mb.enc (m : Mb) : List Value := [.int .i64 m.id, .int .u32 m.content, .int .u32 m.camera, .bool m.mod]
theorem Mb.len (m : Mb) : m.enc.length = 4 := rfl
def msMb : List (String × Nat × Nat) := [("Id", 3, 0), ("Content", 32, 1), ("Camera", 32, 2), ("Mod", 4, 3)]
theorem flatMb (a b : Mb) : FlatV Try.prog a.enc.toArray b.enc.toArray msMb a.enc b.enc :=
  .int (by decide) rfl rfl (.int (by decide) rfl rfl (.int (by decide) rfl rfl (.bool (by decide) rfl rfl .nil)))
theorem Mb.enc_inj (a b : Mb) : decide (a = b) = true ↔ a.enc = b.enc := by
  obtain ⟨a0, a1, a2, a3⟩ := a
  obtain ⟨b0, b1, b2, b3⟩ := b
  simp [Mb.enc]
theorem eqsMb (a b : Mb) : EqS Try.prog 34 a.enc b.enc (decide (a = b)) := .of msMb (by kernel_rfl) (by kernel_rfl) (by kernel_rfl) (by kernel_rfl) (flatMb a b) (Mb.enc_inj a b)
section
variable {W : World} {n : Nat} {L : List Blk} {E : List (Nat × Value)} {d : Option Nat} {t : TypeId} {pos : String} {after : Array Edge} {g : Option (Nat × Bool)}
theorem rd_eqMb34 {T' : Nat} {x y : Operand} {a b : Mb} (hx : ev E x = some (.agg a.enc.toArray)) (hy : ev E y = some (.agg b.enc.toArray)) : RD Try.prog W n L E ⟨d, .binOp .eql 34 x y T', t, pos, after, g⟩ (.bool (decide (a = b))) := rd_eqS (eqsMb a b) hx hy
end
end Go.Proofs.Ytmdeajdaeihniaa.X
/-
  The library's functions over slices that the roster uses, by walks of my own.
-/
namespace Go.Proofs.Ytmdeajdaeihniaa.X
open Go Go.RowKit
set_option linter.unusedVariables false
set_option linter.unusedSimpArgs false
/-- slices.Clone: a row in new memory. -/
theorem xf_cloneM {W : World} {L : List Blk} (p : Option Addr) (m c : Nat) (xs : List Value) (hx : xs.length = m * 4) (hr : Rs W L p xs) (h1 : xs.all (·.oneCell') = true) (hm : m ≤ 1000000000) : XF Try.prog W 73 #[.slice p m c] L (fun v L' => ∃ q k l, v = .slice q m k ∧ SlO 4 34 (.slice q m k) m xs l ∧ m ≤ k ∧ L' = l ++ L) := by
  refine xf_enter (args := [_]) Try.func73 rfl Try.ntmps73 rfl ?_
  cases p with
  | none =>
    have h0 := hr.none_nil
    subst h0
    have hm0 : m = 0 := by simp at hx; omega
    subst hm0
    focus
      refine xc_seq ?_
      refine xc_region ?_
      refine xo_rd (rd_assign rfl) rfl ?_
      refine xo_nil ?_
      refine xq_seq ?_
      refine xc_seq ?_
      refine xc_seq ?_
      refine xc_region ?_
      refine xo_rd (rd_move rfl) rfl ?_
      refine xo_rd (rd_eqnilS rfl) rfl ?_
      refine xo_nil ?_
      refine xq_seq ?_
      refine xc_condt rfl ?_
      refine xc_seq ?_
      refine xc_region ?_
      refine xo_rd (rd_assign rfl) rfl ?_
      refine xo_nil ?_
      refine xq_seq ?_
      refine xc_ret ?_
      refine xq_then_ret ?_
    exact xq_ret1 (.inl rfl) Try.results73 rfl ⟨none, 0, [], rfl, SlO.nil, Nat.le_refl _, rfl⟩
  | some a =>
    focus
      refine xc_seq ?_
      refine xc_region ?_
      refine xo_rd (rd_assign rfl) rfl ?_
      refine xo_nil ?_
      refine xq_seq ?_
      refine xc_seq ?_
      refine xc_seq ?_
      refine xc_region ?_
      refine xo_rd (rd_move rfl) rfl ?_
      refine xo_rd (rd_eqnilS rfl) rfl ?_
      refine xo_nil ?_
      refine xq_seq ?_
      refine xc_condf rfl ?_
      refine xc_skip ?_
      refine xq_seq ?_
      refine xc_seq ?_
      refine xc_region ?_
      refine xo_ef rfl (ef_slice0 fun r5 => ?_)
      refine xo_rd (rd_move rfl) rfl ?_
    refine xo_ef rfl (ef_append [] L [_] rfl rfl SlO.zero rfl hr.skip hx h1 (by decide) (by omega) (by omega) fun v' l' hO => ?_)
    rw [Nat.zero_add, List.nil_append] at hO
    obtain ⟨q, k, rfl, hO, _⟩ := hO.opn
    focus
      refine xo_rd (rd_assign rfl) rfl ?_
      refine xo_nil ?_
      refine xq_seq ?_
      refine xc_ret ?_
    exact xq_ret1 (.inl rfl) Try.results73 rfl ⟨q, k, l', rfl, hO, hO.cap.2, rfl⟩
/-- slices.Delete: one element is taken out. -/
theorem xf_delete {W : World} {R : List Blk} (v : Value) (m i : Nat) (xs : List Value) (l : List Blk) (hO : SlO 4 34 v m xs l) (h1 : xs.all (·.oneCell') = true) (hi : i < m) (hm : m ≤ 1000000000) : XF Try.prog W 69 #[v, .int .i64 i, .int .i64 (i + 1)] (l ++ R) (fun v' L' => ∃ q k l', v' = .slice q (m - 1) k ∧ SlO 4 34 (.slice q (m - 1) k) (m - 1) (xs.take (i * 4) ++ xs.drop ((i + 1) * 4)) l' ∧ L' = l' ++ R) := by
  have hlen := hO.len
  obtain ⟨b, rest, cap, rfl, hcap, rfl⟩ := hO.cut (by omega)
  have hsz : (xs ++ rest).toArray.size = cap * 4 := by
    rcases hO with ⟨h, _⟩ | ⟨b', cs, cap', h, hl, _, hs, _⟩
    · cases h
    · simp only [Value.slice.injEq] at h
      simp only [List.cons.injEq, Prod.mk.injEq, Obj.cells.injEq, and_true] at hl
      rw [hl.2, h.2.2]; exact hs
  refine xf_enter (args := [_, _, _]) Try.func69 rfl Try.ntmps69 rfl ?_
  have hdl : (xs.drop ((i + 1) * 4)).length = (m - (i + 1)) * 4 := by rw [List.length_drop, hlen, Nat.sub_mul]
  have hd1 : (xs.drop ((i + 1) * 4)).all (·.oneCell') = true := List.all_eq_true.2 fun u hu => List.all_eq_true.1 h1 u (List.mem_of_mem_drop hu)
  have hrx : Rs W ((b, .cells (xs ++ rest).toArray 34 (0, 0)) :: R) (some ⟨b, 0, none⟩) xs := fun j u hj => ⟨b, 0, rfl, Cl.pre hj⟩
  have hsrc : Rs W ((b, .cells (xs ++ rest).toArray 34 (0, 0)) :: R) (if cap = i + 1 then some ⟨b, 0, none⟩ else some ⟨b, 0 + (i + 1) * 4, none⟩) (xs.drop ((i + 1) * 4)) := by
    split
    · rw [List.drop_of_length_le (by rw [hlen]; exact Nat.mul_le_mul_right _ (by omega))]; exact Rs.nil
    · exact hrx.drop _
  focus
    refine xc_seq ?_
    refine xc_region ?_
    refine xo_rd (rd_assign rfl) rfl ?_
    refine xo_nil ?_
    refine xq_seq ?_
    refine xc_seq ?_
    refine xc_region ?_
    refine xo_rd (rd_move rfl) rfl ?_
    refine xo_rd (rd_move rfl) rfl ?_
    refine xo_rd (rd_move rfl) rfl ?_
    refine xo_rd (rd_move rfl) rfl ?_
    refine xo_rd (rd_len rfl) rfl ?_
    refine xo_rd (rd_slice3v rfl rfl rfl rfl (by omega) (by omega) (by omega) (by omega)) rfl ?_
    refine xo_nil ?_
    refine xq_seq ?_
    refine xc_seq ?_
    refine xc_seq ?_
    refine xc_region ?_
    refine xo_rd (rd_move rfl) rfl ?_
    refine xo_rd (rd_move rfl) rfl ?_
    refine xo_rd (rd_eql rfl rfl) rfl ?_
    refine xo_nil ?_
    refine xq_seq ?_
    refine xc_dec rfl (fun h1 => (by exfalso; omega)) (fun h1 => ?_)
    refine xc_skip ?_
    refine xq_seq ?_
    refine xc_seq ?_
    refine xc_region ?_
    refine xo_rd (rd_move rfl) rfl ?_
    refine xo_rd (rd_len rfl) rfl ?_
    refine xo_rd (rd_assign rfl) rfl ?_
    refine xo_nil ?_
    refine xq_seq ?_
    refine xc_seq ?_
    refine xc_drawM [0, 0, 3, 0, 0, 24, 36, 127] [0, 0, 3, 0, 0, 24, 36, 127] [] (by kernel_rfl) (by kernel_rfl) (by kernel_rfl) ?_
    refine xm_take 0 (m' := 1) rfl (by kernel_rfl) (by first | exact Sb.refl | exact Sb.nil | (repeat (first | exact Sb.nil | exact Sb.refl | exact Sb.app0 | apply Sb.keep | apply Sb.keepApp | apply Sb.cons | apply Sb.app))) (rd_move rfl) rfl (by kernel_rfl) ?_
    refine xm_take 1 (m' := 3) rfl (by kernel_rfl) (by first | exact Sb.refl | exact Sb.nil | (repeat (first | exact Sb.nil | exact Sb.refl | exact Sb.app0 | apply Sb.keep | apply Sb.keepApp | apply Sb.cons | apply Sb.app))) (rd_move rfl) rfl (by kernel_rfl) ?_
    refine xm_take 2 (m' := 7) rfl (by kernel_rfl) (by first | exact Sb.refl | exact Sb.nil | (repeat (first | exact Sb.nil | exact Sb.refl | exact Sb.app0 | apply Sb.keep | apply Sb.keepApp | apply Sb.cons | apply Sb.app))) (rd_sliceHi rfl rfl (by omega) (by omega)) rfl (by kernel_rfl) ?_
    refine xm_take 3 (m' := 15) rfl (by kernel_rfl) (by first | exact Sb.refl | exact Sb.nil | (repeat (first | exact Sb.nil | exact Sb.refl | exact Sb.app0 | apply Sb.keep | apply Sb.keepApp | apply Sb.cons | apply Sb.app))) (rd_move rfl) rfl (by kernel_rfl) ?_
    refine xm_take 4 (m' := 31) rfl (by kernel_rfl) (by first | exact Sb.refl | exact Sb.nil | (repeat (first | exact Sb.nil | exact Sb.refl | exact Sb.app0 | apply Sb.keep | apply Sb.keepApp | apply Sb.cons | apply Sb.app))) (rd_move rfl) rfl (by kernel_rfl) ?_
    refine xm_take 5 (m' := 63) rfl (by kernel_rfl) (by first | exact Sb.refl | exact Sb.nil | (repeat (first | exact Sb.nil | exact Sb.refl | exact Sb.app0 | apply Sb.keep | apply Sb.keepApp | apply Sb.cons | apply Sb.app))) (rd_sliceEnd rfl rfl (by omega) (by omega)) rfl (by kernel_rfl) ?_
    refine xm_one 6 (m' := 127) rfl (by kernel_rfl) rfl (by kernel_rfl) (ef_appendRoom [] R rfl rfl rfl hsrc hdl hd1 (by omega) hsz (by decide) ?_)
    refine ⟨(by first | exact Sb.refl | exact Sb.nil | (repeat (first | exact Sb.nil | exact Sb.refl | exact Sb.app0 | apply Sb.keep | apply Sb.keepApp | apply Sb.cons | apply Sb.app))), ?_⟩
    refine xm_take 7 (m' := 255) rfl (by kernel_rfl) (by first | exact Sb.refl | exact Sb.nil | (repeat (first | exact Sb.nil | exact Sb.refl | exact Sb.app0 | apply Sb.keep | apply Sb.keepApp | apply Sb.cons | apply Sb.app))) (rd_assign rfl) rfl (by kernel_rfl) ?_
    refine xm_done (by kernel_rfl) ?_
    refine xq_seq ?_
    refine xc_seq ?_
    refine xc_region ?_
    refine xo_rd (rd_move rfl) rfl ?_
    refine xo_rd (rd_move rfl) rfl ?_
    refine xo_rd (rd_len rfl) rfl ?_
    refine xo_rd (rd_move rfl) rfl ?_
    refine xo_rd (rd_slice rfl rfl rfl (by omega) (by omega) (by omega) (by omega)) rfl ?_
  have hrm : i + (m - (i + 1)) = m - 1 := by omega
  have hrm' : (i : Int).toNat + (m - ((i : Int) + 1).toNat) = m - 1 := by omega
  have hi1 : (i : Int).toNat = i := by omega
  have htk : ((xs ++ rest).take ((i : Int).toNat * 4) ++ xs.drop ((i + 1) * 4)).length = (m - 1) * 4 := by
    rw [List.length_append, hdl, List.length_take, ← hrm, Nat.add_mul]
    simp only [List.length_append, hlen, hi1]
    rw [Nat.min_eq_left (by have : i * 4 ≤ m * 4 := Nat.mul_le_mul_right _ (by omega)
                            omega)]
  refine xo_ef rfl (ef_clear [] R rfl rfl (by omega) (by simp only [List.size_toArray, List.length_append, List.length_drop, List.length_take] at *; omega) (by simp [Value.cells, Value.oneCell']) fun cs' hcs hcs2 => ?_)
  focus
    refine xo_nil ?_
    refine xq_seq ?_
    refine xc_seq ?_
    refine xc_region ?_
    refine xo_rd (rd_move rfl) rfl ?_
    refine xo_rd (rd_assign rfl) rfl ?_
    refine xo_nil ?_
    refine xq_seq ?_
    refine xc_ret ?_
  refine xq_ret1 (.inl rfl) Try.results69 rfl ⟨some ⟨b, 0, none⟩, cap, [(b, .cells cs' 34 (0, 0))], by rw [hrm'], .inr ⟨b, cs', cap, rfl, rfl, by omega, ?_, ?_⟩, rfl⟩
  · rw [hcs]; simp only [List.size_toArray, List.length_append, List.length_drop, List.length_take] at *; omega
  · have hz : 0 + (((((i : Int).toNat + (m - ((i : Int) + 1).toNat) : Nat)) : Int)).toNat * 4 = (m - 1) * 4 := by omega
    rw [hz] at hcs2
    rw [hcs2]
    simp only [List.append_assoc]
    rw [← List.append_assoc, List.take_left' htk, hi1, List.take_append_of_le_length (by rw [hlen]; exact Nat.mul_le_mul_right _ (by omega))]
theorem xf_byId {W : World} {L : List Blk} (m : Mb) (q : Nat) (id : Int) (hq : Cl W L q 0 (.int .i64 id)) : XF Try.prog W 75 #[.agg m.enc.toArray, .pointer (some ⟨q, 0, none⟩)] L (fun v L' => v = .bool (decide (m.id = id)) ∧ L' = L) := by
  refine xf_enter (args := [_, _]) Try.func75 rfl Try.ntmps75 rfl ?_
  focus
    refine xc_seq ?_
    refine xc_region ?_
    refine xo_ef rfl (ef_box rfl fun r2 => ?_)
    refine xo_rd (rd_assign rfl) rfl ?_
    refine xo_nil ?_
    refine xq_seq ?_
    refine xc_seq ?_
    refine xc_region ?_
    refine xo_rd (rd_fieldAddr rfl) rfl ?_
    refine xo_rd (rd_load1 rfl (Cl.o0 rfl)) rfl ?_
    refine xo_rd (rd_load1 rfl hq.skip) rfl ?_
    refine xo_rd (rd_eql rfl rfl) rfl ?_
    refine xo_rd (rd_assign rfl) rfl ?_
    refine xo_nil ?_
    refine xq_seq ?_
    refine xc_ret ?_
    exact xq_tail (xq_ret1 (.inl rfl) Try.results75 rfl (⟨rfl, rfl⟩))
theorem xf_indexId {W : World} {L : List Blk} (p : Option Addr) (n c : Nat) (ms : List Mb) (q : Nat) (id : Int) (hn : ms.length = n) (hr : Rs W L p (ms.flatMap Mb.enc)) (hq : Cl W L q 0 (.int .i64 id)) (hm : n ≤ 1000000) : XF Try.prog W 74 #[.slice p n c, .func (.func 75) #[] #[.pointer (some ⟨q, 0, none⟩)]] L (fun v L' => v = .int .i64 (ixOf (ms.map Mb.id) id) ∧ L' = L) := by
  refine xf_enter (args := [_, _]) Try.func74 rfl Try.ntmps74 rfl ?_
  focus
    refine xc_seq ?_
    refine xc_region ?_
    refine xo_rd (rd_assign rfl) rfl ?_
    refine xo_nil ?_
    refine xq_seq ?_
    refine xc_seq ?_
    refine xc_seq ?_
    refine xc_region ?_
    refine xo_rd (rd_move rfl) rfl ?_
    refine xo_rd (rd_len rfl) rfl ?_
    refine xo_rd (rd_move rfl) rfl ?_
    refine xo_nil ?_
    refine xq_seq ?_
    refine xc_block ?_
  refine xc_loopI (ι := Nat) (fun k => k ≤ n ∧ ∀ i, (hi : i < k) → (h2 : i < ms.length) → ms[i].id ≠ id) (fun k => n - k) (fun _ => L) (fun k => [(0, .slice p n c), (1, .func (.func 75) #[] #[.pointer (some ⟨q, 0, none⟩)]), (7, .int .i64 n), (8, .int .i64 k)]) 0 ⟨Nat.zero_le _, fun i hi => by omega⟩ rfl (by repeat (first | exact keep_nil | refine keep_cons rfl ?_)) ?_
  rintro k ⟨hk, hno⟩
  focus
    refine xc_seq ?_
    refine xc_region ?_
    refine xo_rd (rd_lss rfl rfl) rfl ?_
    refine xo_nil ?_
    refine xq_seq ?_
    refine xc_seq ?_
    refine xc_dec rfl (fun hk1 => ?_) (fun hk1 => ?_)
    refine xc_skip ?_
    refine xq_seq ?_
    refine xc_seq ?_
    refine xc_block ?_
    refine xc_seq ?_
    refine xc_region ?_
    refine xo_rd (rd_move rfl) rfl ?_
    refine xo_rd (rd_assign rfl) rfl ?_
    refine xo_nil ?_
    refine xq_seq ?_
    refine xc_seq ?_
    refine xc_region ?_
    refine xo_rd (rd_move rfl) rfl ?_
    refine xo_rd (rd_move rfl) rfl ?_
    refine xo_rd (rd_move rfl) rfl ?_
    rotate_left
    refine xc_exit ?_
    refine xq_then_exit ?_
    refine xq_then_exit ?_
    refine xq_block_hit ?_
    refine xq_seq ?_
    refine xc_seq ?_
    refine xc_region ?_
    refine xo_rd (rd_assign rfl) rfl ?_
    refine xo_nil ?_
    refine xq_seq ?_
    refine xc_ret ?_
    rotate_left
  · have hkn : k < ms.length := by omega
    obtain ⟨b, o, rfl, hc⟩ := hr.row Mb.len (by decide) hkn
    focus
      refine xo_rd (rd_indexAddr rfl rfl (by omega) (by omega)) rfl ?_
      refine xo_rd (rd_loadA (vs := ms[k].enc) rfl rfl hc) rfl ?_
      refine xo_ef rfl (ef_callv rfl rfl (XF.mono (xf_byId ms[k] q id hq) ?_))
      rintro v L' ⟨rfl, rfl⟩
      refine xo_nil ?_
      refine xq_seq ?_
      refine xc_dec rfl (fun hz1 => ?_) (fun hz1 => ?_)
      refine xc_seq ?_
      refine xc_region ?_
      refine xo_rd (rd_move rfl) rfl ?_
      refine xo_rd (rd_assign rfl) rfl ?_
      refine xo_nil ?_
      refine xq_seq ?_
      refine xc_ret ?_
      refine xq_block_ret ?_
      refine xq_then_ret ?_
      refine xq_then_ret ?_
      refine xq_block_ret ?_
      refine xq_then_ret ?_
      rotate_left
      refine xc_skip ?_
      refine xq_block ?_
      refine xq_seq ?_
      refine xc_region ?_
      refine xo_rd (rd_addn rfl rfl (by omega) (by omega)) rfl ?_
      refine xo_rd (rd_move rfl) rfl ?_
      refine xo_nil ?_
      rotate_left
    · refine xq_ret1 (.inl rfl) Try.results74 rfl ⟨?_, rfl⟩
      rw [ixOf_some (k := k) (by simpa using hkn) (by simpa using hz1) (fun i hi => by simpa using hno i hi (by omega))]
    · refine xq_roundI (k + 1) ⟨by omega, fun i hi h2 => ?_⟩ (by omega) rfl (by repeat (first | exact keep_nil | refine keep_cons rfl ?_))
      by_cases he : i = k
      · subst he; exact hz1
      · exact hno i (by omega) h2
  · refine xq_ret1 (.inl rfl) Try.results74 rfl ⟨?_, rfl⟩
    rw [ixOf_none (fun i hi => by simpa using hno i (by simp at hi; omega) (by simpa using hi))]
end Go.Proofs.Ytmdeajdaeihniaa.X
/-
  The roster's memory, and its functions, by walks of my own.
-/
namespace Go.Proofs.Ytmdeajdaeihniaa.X
open Go Go.RowKit
set_option linter.unusedVariables false
set_option linter.unusedSimpArgs false
/-! ### what the document has -/
def Mb.src (m : Mb) (s : Int) : Bool := m.content == s || m.camera == s
def getId (l : List Mb) (id : Int) : Option Mb := l.find? (fun m => m.id == id)
def getSrc (l : List Mb) (s : Int) : Option Mb := l.find? (fun m => m.src s)
def srcs (l : List Mb) : List Int := l.flatMap fun m => [m.content, m.camera]
def Mb.right (m : Mb) : Prop := ¬(m.id < 0 ∨ m.content = 0 ∨ m.camera = 0 ∨ m.content = m.camera)
instance (m : Mb) : Decidable m.right := by unfold Mb.right; infer_instance
/-- Join's answer. -/
def joinR (most : Int) (l : List Mb) (m : Mb) : Int :=
  if ¬ m.right then 2 else if (getId l m.id).isSome then 132 else if (getSrc l m.content).isSome ∨ (getSrc l m.camera).isSome then 140 else if most ≤ l.length then 131 else 0
def joinL (most : Int) (l : List Mb) (m : Mb) : List Mb := if joinR most l m = 0 then l ++ [m] else l
def leaveR (l : List Mb) (id : Int) : Int := if (getId l id).isSome then 0 else 130
def leaveL (l : List Mb) (id : Int) : List Mb := l.eraseP (fun m => m.id == id)
/-- All are right, and none is twice. -/
structure Fit (most : Int) (l : List Mb) : Prop where
  ids : (l.map Mb.id).Nodup
  src : (srcs l).Nodup
  right : ∀ m, m ∈ l → m.right
  len : (l.length : Int) ≤ most
  most : 0 ≤ most ∧ most ≤ 32
/-! ### its memory -/
structure Ro where
  most : Int
  ms : List Mb
  c : Nat
  mv : Value
  ml : List Blk
  mb : Nat
  mo : Obj
  sz : Nat
def Ro.cells (x : Ro) : List Value := [.int .i64 x.most, x.mv, .map (some x.mb)]
def Ro.blks (x : Ro) : List Blk := (x.c, .cells x.cells.toArray 92 (0, 0)) :: (x.mb, x.mo) :: x.ml
def srcOf (l : List Mb) (s : Int) : Option Value := (getSrc l s).map fun m => .int .i64 m.id
structure Ro.Ok (x : Ro) : Prop where
  o : SlO 4 34 x.mv x.ms.length (x.ms.flatMap Mb.enc) x.ml
  map : MpIs .u32 x.mo (srcOf x.ms) x.sz
  fit : Fit x.most x.ms
theorem Mb.one (l : List Mb) : (l.flatMap Mb.enc).all (·.oneCell') = true := by
  rw [List.all_eq_true]
  intro v hv
  obtain ⟨x, _, hx⟩ := List.mem_flatMap.1 hv
  simp only [Mb.enc, List.mem_cons, List.not_mem_nil, or_false] at hx
  rcases hx with rfl | rfl | rfl | rfl <;> rfl
theorem Ro.blks_app (x : Ro) (L : List Blk) : x.blks ++ L = (x.c, .cells x.cells.toArray 92 (0, 0)) :: (x.mb, x.mo) :: (x.ml ++ L) := by simp [Ro.blks]
theorem ix_cases (l : List Mb) (id : Int) : (ixOf (l.map Mb.id) id = -1 ∧ getId l id = none ∧ leaveL l id = l) ∨ ∃ i, ∃ hi : i < l.length, ixOf (l.map Mb.id) id = i ∧ getId l id = some l[i] ∧ l[i].id = id ∧ leaveL l id = l.eraseIdx i := by
  unfold leaveL getId
  rw [List.eraseP_eq_eraseIdx]
  unfold ixOf
  rw [List.findIdx?_map]
  have e : (fun x : Int => x == id) ∘ Mb.id = fun q : Mb => q.id == id := rfl
  rw [e]
  cases h : l.findIdx? (fun q => q.id == id) with
  | none =>
    refine .inl ⟨rfl, ?_, rfl⟩
    rw [List.find?_eq_none]
    exact fun x hx => by have := List.findIdx?_eq_none_iff.1 h x hx; simp [this]
  | some i =>
    obtain ⟨hi, h1, h2⟩ := List.findIdx?_eq_some_iff_getElem.1 h
    refine .inr ⟨i, hi, rfl, ?_, by simpa using h1, rfl⟩
    rw [List.find?_eq_some_iff_getElem]
    exact ⟨h1, i, hi, rfl, fun j hj => by simpa using h2 j hj⟩
theorem xf_place {W : World} {L : List Blk} (x : Ro) (hx : x.Ok) (id : Int) : XF Try.prog W 61 #[.pointer (some ⟨x.c, 0, none⟩), .int .i64 id] (x.blks ++ L) (fun v L' => v = .int .i64 (ixOf (x.ms.map Mb.id) id) ∧ L' = x.blks ++ L) := by
  rw [Ro.blks_app]
  obtain ⟨most, ms, c, mv, ml, mb, mo, sz⟩ := x
  obtain ⟨hO, hm, hf⟩ := hx
  dsimp only [Ro.cells] at *
  obtain ⟨p, k, rfl, hO, hk⟩ := hO.opn
  have hl := hf.len
  have hl2 := hf.most
  refine xf_enter (args := [_, _]) Try.func61 rfl Try.ntmps61 rfl ?_
  focus
    refine xc_seq ?_
    refine xc_region ?_
    refine xo_ef rfl (ef_box rfl fun r3 => ?_)
    refine xo_rd (rd_assign rfl) rfl ?_
    refine xo_nil ?_
    refine xq_seq ?_
    refine xc_seq ?_
    refine xc_seq ?_
    refine xc_region ?_
    refine xo_rd (rd_move rfl) rfl ?_
    refine xo_rd (rd_eqnil rfl) rfl ?_
    refine xo_nil ?_
    refine xq_seq ?_
    refine xc_condf rfl ?_
    refine xc_skip ?_
    refine xq_seq ?_
    refine xc_seq ?_
    refine xc_region ?_
    refine xo_rd (rd_move rfl) rfl ?_
    refine xo_rd (rd_nilCheck rfl) rfl ?_
    refine xo_rd (rd_fieldAddr rfl) rfl ?_
    refine xo_rd (rd_load1 rfl (Cl.o1 rfl)) rfl ?_
    refine xo_rd (rd_makeFunc rfl rfl) rfl ?_
    refine xo_ef rfl (ef_call rfl (XF.mono (xf_indexId _ _ _ ms r3 id rfl (hO.rs (by intro z hz; simp [hz])) (Cl.o0 rfl) (by omega)) ?_))
    rintro v L' ⟨rfl, rfl⟩
    refine xo_rd (rd_assign rfl) rfl ?_
    refine xo_nil ?_
    refine xq_seq ?_
    refine xc_ret ?_
    exact xq_tail (xq_ret1 (.inl rfl) Try.results61 rfl (⟨rfl, rfl⟩))
theorem xf_get {W : World} {L : List Blk} (x : Ro) (hx : x.Ok) (id : Int) : XF Try.prog W 42 #[.pointer (some ⟨x.c, 0, none⟩), .int .i64 id] (x.blks ++ L) (fun v L' => v = .tuple #[.agg ((getId x.ms id).getD ⟨0, 0, 0, false⟩).enc.toArray, .bool (getId x.ms id).isSome] ∧ L' = x.blks ++ L) := by
  have hO := hx.o
  have hl := hx.fit.len
  have hl2 := hx.fit.most
  refine xf_enter (args := [_, _]) Try.func42 rfl Try.ntmps42 rfl ?_
  rcases ix_cases x.ms id with ⟨he, hg, _⟩ | ⟨i, hi, he, hg, _, _⟩
  · have hpl : ∀ L, XF Try.prog W 61 #[.pointer (some ⟨x.c, 0, none⟩), .int .i64 id] (x.blks ++ L) (fun v L' => v = .int .i64 (-1) ∧ L' = x.blks ++ L) := fun L => by have := xf_place (W := W) (L := L) x hx id; rw [he] at this; exact this
    rw [hg]
    focus
      refine xc_seq ?_
      refine xc_region ?_
      refine xo_ef rfl (ef_alloc fun r4 => ?_)
      refine xo_rd (rd_assign rfl) rfl ?_
      refine xo_nil ?_
      refine xq_seq ?_
      refine xc_seq ?_
      refine xc_region ?_
      refine xo_rd (rd_move rfl) rfl ?_
      refine xo_rd (rd_move rfl) rfl ?_
      refine xo_ef rfl (ef_call rfl (XF.mono (XF.seg [_] x.blks L (hpl _)) ?_))
      rintro v L' ⟨rfl, rfl⟩
      refine xo_seg [_] x.blks L ?_
      refine xo_rd (rd_assign rfl) rfl ?_
      refine xo_nil ?_
      refine xq_seq ?_
      refine xc_seq ?_
      refine xc_seq ?_
      refine xc_region ?_
      refine xo_rd (rd_move rfl) rfl ?_
      refine xo_rd (rd_lss rfl rfl) rfl ?_
      refine xo_nil ?_
      refine xq_seq ?_
      refine xc_condt rfl ?_
      refine xc_seq ?_
      refine xc_region ?_
      refine xo_rd (rd_build rfl rfl rfl) rfl ?_
      refine xo_ef rfl (ef_storeB [] _ rfl rfl (by first | rfl | assumption) rfl rfl rfl ?_)
      refine xo_rd (rd_assign rfl) rfl ?_
      refine xo_nil ?_
      refine xq_seq ?_
      refine xc_ret ?_
      refine xq_then_ret ?_
    exact xq_retB2 (.inl rfl) Try.results42 rfl rfl Kn.o0 rfl (List.sublist_cons_self _ _) ⟨rfl, rfl⟩
  · have hpl : ∀ L, XF Try.prog W 61 #[.pointer (some ⟨x.c, 0, none⟩), .int .i64 id] (x.blks ++ L) (fun v L' => v = .int .i64 i ∧ L' = x.blks ++ L) := fun L => by have := xf_place (W := W) (L := L) x hx id; rw [he] at this; exact this
    rw [hg]
    obtain ⟨p, k, hv, hO, hk⟩ := hO.opn
    have hld : Cl W (x.blks ++ L) x.c (0 + 1) (.slice p x.ms.length k) := by rw [Ro.blks_app, ← hv]; exact Cl.o0 rfl
    obtain ⟨b, o, rfl, hc⟩ := (hO.rs (W := W) (L := x.blks ++ L) (by intro z hz; rw [Ro.blks_app]; simp [hz])).row Mb.len (by decide) hi
    focus
      refine xc_seq ?_
      refine xc_region ?_
      refine xo_ef rfl (ef_alloc fun r4 => ?_)
      refine xo_rd (rd_assign rfl) rfl ?_
      refine xo_nil ?_
      refine xq_seq ?_
      refine xc_seq ?_
      refine xc_region ?_
      refine xo_rd (rd_move rfl) rfl ?_
      refine xo_rd (rd_move rfl) rfl ?_
      refine xo_ef rfl (ef_call rfl (XF.mono (XF.seg [_] x.blks L (hpl _)) ?_))
      rintro v L' ⟨rfl, rfl⟩
      refine xo_seg [_] x.blks L ?_
      refine xo_rd (rd_assign rfl) rfl ?_
      refine xo_nil ?_
      refine xq_seq ?_
      refine xc_seq ?_
      refine xc_seq ?_
      refine xc_region ?_
      refine xo_rd (rd_move rfl) rfl ?_
      refine xo_rd (rd_lss rfl rfl) rfl ?_
      refine xo_nil ?_
      refine xq_seq ?_
      refine xc_condf rfl ?_
      refine xc_skip ?_
      refine xq_seq ?_
      refine xc_seq ?_
      refine xc_region ?_
      refine xo_rd (rd_move rfl) rfl ?_
      refine xo_rd (rd_nilCheck rfl) rfl ?_
      refine xo_rd (rd_fieldAddr rfl) rfl ?_
      refine xo_rd (rd_load1 rfl hld.skip) rfl ?_
      refine xo_rd (rd_move rfl) rfl ?_
      refine xo_rd (rd_indexAddr rfl rfl (by omega) (by omega)) rfl ?_
      refine xo_rd (rd_loadA (vs := x.ms[i].enc) rfl rfl (fun j u hj => (hc j u hj).skip)) rfl ?_
      refine xo_ef rfl (ef_storeB [] _ rfl rfl (by first | rfl | assumption) rfl rfl rfl ?_)
      refine xo_rd (rd_assign rfl) rfl ?_
      refine xo_nil ?_
      refine xq_seq ?_
      refine xc_ret ?_
    exact xq_retB2 (.inl rfl) Try.results42 rfl rfl Kn.o0 rfl (List.sublist_cons_self _ _) ⟨rfl, rfl⟩
theorem xf_all {W : World} {L : List Blk} (x : Ro) (hx : x.Ok) : XF Try.prog W 57 #[.pointer (some ⟨x.c, 0, none⟩)] (x.blks ++ L) (fun v L' => ∃ p k l, v = .slice p x.ms.length k ∧ SlO 4 34 (.slice p x.ms.length k) x.ms.length (x.ms.flatMap Mb.enc) l ∧ x.ms.length ≤ k ∧ L' = l ++ (x.blks ++ L)) := by
  have hl := hx.fit.len
  have hl2 := hx.fit.most
  obtain ⟨p, k, hv, hO, hk⟩ := hx.o.opn
  have hld : Cl W (x.blks ++ L) x.c (0 + 1) (.slice p x.ms.length k) := by rw [Ro.blks_app, ← hv]; exact Cl.o0 rfl
  refine xf_enter (args := [_]) Try.func57 rfl Try.ntmps57 rfl ?_
  focus
    refine xc_seq ?_
    refine xc_region ?_
    refine xo_rd (rd_assign rfl) rfl ?_
    refine xo_nil ?_
    refine xq_seq ?_
    refine xc_seq ?_
    refine xc_seq ?_
    refine xc_region ?_
    refine xo_rd (rd_move rfl) rfl ?_
    refine xo_rd (rd_eqnil rfl) rfl ?_
    refine xo_nil ?_
    refine xq_seq ?_
    refine xc_condf rfl ?_
    refine xc_skip ?_
    refine xq_seq ?_
    refine xc_seq ?_
    refine xc_region ?_
    refine xo_rd (rd_move rfl) rfl ?_
    refine xo_rd (rd_nilCheck rfl) rfl ?_
    refine xo_rd (rd_fieldAddr rfl) rfl ?_
    refine xo_rd (rd_load1 rfl hld) rfl ?_
    refine xo_ef rfl (ef_call rfl (XF.mono (xf_cloneM _ _ _ _ (by rw [flat_length Mb.enc Mb.len]) (hO.rs fun z hz => by rw [Ro.blks_app]; simp [hz]) (Mb.one _) (by omega)) ?_))
    rintro v L' ⟨qb, cb, lb, rfl, hqb, hcb, rfl⟩
    refine xo_rd (rd_assign rfl) rfl ?_
    refine xo_nil ?_
    refine xq_seq ?_
    refine xc_ret ?_
  exact xq_ret1 (.inl rfl) Try.results57 rfl ⟨qb, cb, lb, rfl, hqb, hcb, rfl⟩
theorem xf_new_bad {W : World} {L : List Blk} (most : Int) (hs : most < 0 ∨ 32 < most) : XF Try.prog W 27 #[.int .i64 most] L (fun v L' => v = .tuple #[.pointer none, .int .i64 2] ∧ L' = L) := by
  refine xf_enter (args := [_]) Try.func27 rfl Try.ntmps27 rfl ?_
  focus
    refine xc_seq ?_
    refine xc_region ?_
    refine xo_rd (rd_assign rfl) rfl ?_
    refine xo_rd (rd_assign rfl) rfl ?_
    refine xo_nil ?_
    refine xq_seq ?_
    refine xc_seq ?_
    refine xc_seq ?_
    refine xc_region ?_
    refine xo_rd (rd_move rfl) rfl ?_
    refine xo_rd (rd_lss rfl rfl) rfl ?_
    refine xo_rd (rd_move rfl) rfl ?_
    refine xo_dec 6 rfl (fun h1 => ?_) (fun h1 => ?_)
    refine xo_gskip rfl rfl rfl rfl ?_
    refine xo_gskip rfl rfl rfl rfl ?_
    refine xo_rd (rd_pickt rfl rfl) rfl ?_
    refine xo_nil ?_
    refine xq_seq ?_
    refine xc_condt rfl ?_
    refine xc_seq ?_
    refine xc_region ?_
    refine xo_rd (rd_assign rfl) rfl ?_
    refine xo_rd (rd_assign rfl) rfl ?_
    refine xo_nil ?_
    refine xq_seq ?_
    refine xc_ret ?_
    refine xq_then_ret ?_
    exact xq_ret2 (.inl rfl) Try.results27 rfl rfl (⟨rfl, rfl⟩)
    refine xo_grd rfl rfl (rd_move rfl) rfl ?_
    refine xo_grd rfl rfl (rd_gtr rfl rfl) rfl ?_
    refine xo_rd (rd_pickf rfl rfl) rfl ?_
    refine xo_nil ?_
    refine xq_seq ?_
    refine xc_dec rfl (fun h2 => ?_) (fun h2 => (by exfalso; omega))
    refine xc_seq ?_
    refine xc_region ?_
    refine xo_rd (rd_assign rfl) rfl ?_
    refine xo_rd (rd_assign rfl) rfl ?_
    refine xo_nil ?_
    refine xq_seq ?_
    refine xc_ret ?_
    refine xq_then_ret ?_
    exact xq_ret2 (.inl rfl) Try.results27 rfl rfl (⟨rfl, rfl⟩)
theorem xf_new {W : World} {L : List Blk} (most : Int) (hs : 0 ≤ most ∧ most ≤ 32) : XF Try.prog W 27 #[.int .i64 most] L (fun v L' => ∃ x : Ro, x.Ok ∧ v = .tuple #[.pointer (some ⟨x.c, 0, none⟩), .int .i64 0] ∧ x.most = most ∧ x.ms = [] ∧ L' = x.blks ++ L) := by
  refine xf_enter (args := [_]) Try.func27 rfl Try.ntmps27 rfl ?_
  focus
    refine xc_seq ?_
    refine xc_region ?_
    refine xo_rd (rd_assign rfl) rfl ?_
    refine xo_rd (rd_assign rfl) rfl ?_
    refine xo_nil ?_
    refine xq_seq ?_
    refine xc_seq ?_
    refine xc_seq ?_
    refine xc_region ?_
    refine xo_rd (rd_move rfl) rfl ?_
    refine xo_rd (rd_lss rfl rfl) rfl ?_
    refine xo_rd (rd_move rfl) rfl ?_
    refine xo_dec 6 rfl (fun h1 => (by exfalso; omega)) (fun h1 => ?_)
    refine xo_grd rfl rfl (rd_move rfl) rfl ?_
    refine xo_grd rfl rfl (rd_gtr rfl rfl) rfl ?_
    refine xo_rd (rd_pickf rfl rfl) rfl ?_
    refine xo_nil ?_
    refine xq_seq ?_
    refine xc_dec rfl (fun h2 => (by exfalso; omega)) (fun h2 => ?_)
    refine xc_skip ?_
    refine xq_seq ?_
    refine xc_seq ?_
    refine xc_region ?_
    refine xo_rd (rd_move rfl) rfl ?_
    refine xo_ef rfl (ef_makeMap fun r11 => ?_)
    refine xo_rd (rd_build rfl rfl rfl) rfl ?_
    refine xo_ef rfl (ef_box rfl fun r13 => ?_)
    refine xo_rd (rd_assign rfl) rfl ?_
    refine xo_rd (rd_assign rfl) rfl ?_
    refine xo_nil ?_
    refine xq_seq ?_
    refine xc_ret ?_
  exact xq_ret2 (.inl rfl) Try.results27 rfl rfl ⟨⟨most, [], r13, .slice none 0 0, [], r11, .map #[] 0, 0⟩, ⟨SlO.nil, MpIs.empty, List.nodup_nil, List.nodup_nil, (fun _ h => by cases h), hs.1, hs⟩, rfl, rfl, rfl, rfl⟩
end Go.Proofs.Ytmdeajdaeihniaa.X
