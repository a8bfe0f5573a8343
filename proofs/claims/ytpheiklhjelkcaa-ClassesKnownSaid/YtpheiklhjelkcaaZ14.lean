/-
  Texts of my own, put together: walks and laws for this seat. No condition.
-/
import Derived.Test.YtpheiklhjelkcaaZ8
import Derived.Test.YtpheiklhjelkcaaZ11
/-
  Chapter 19: rows that are not there: a walk of my own.
-/
namespace Go.Proofs.Ytpheiklhjelkcaa.X
open Go Go.RowKit
set_option linter.unusedVariables false
set_option linter.unusedSimpArgs false
theorem xf_LenN {W : World} {L : List Blk} : XF Try.prog W 43 #[.pointer none] L (fun v L' => v = .int .i64 0 ∧ L' = L) := by
  refine xf_enter (args := [_]) Try.func43 rfl Try.ntmps43 rfl ?_
  focus
    refine xc_seq ?_
    refine xc_region ?_
    refine xo_rd (rd_assign rfl) rfl ?_
    refine xo_nil ?_
    refine xq_seq ?_
    refine xc_seq ?_
    refine xc_seq ?_
    refine xc_region ?_
    refine xo_rd (rd_move rfl) rfl ?_
    refine xo_rd (rd_eqnil rfl) rfl ?_
    refine xo_nil ?_
    refine xq_seq ?_
    refine xc_condt rfl ?_
    refine xc_seq ?_
    refine xc_region ?_
    refine xo_rd (rd_assign rfl) rfl ?_
    refine xo_nil ?_
    refine xq_seq ?_
    refine xc_ret ?_
    refine xq_then_ret ?_
  exact xq_ret1 (.inl rfl) Try.results43 rfl ⟨rfl, rfl⟩
theorem xf_AFirstN {W : World} {L : List Blk} : XF Try.prog W 39 #[.pointer none] L (fun v L' => v = .tuple #[.slice none 0 0, .bool false] ∧ L' = L) := by
  refine xf_enter (args := [_]) Try.func39 rfl Try.ntmps39 rfl ?_
  focus
    refine xc_seq ?_
    refine xc_region ?_
    refine xo_rd (rd_assign rfl) rfl ?_
    refine xo_rd (rd_assign rfl) rfl ?_
    refine xo_nil ?_
    refine xq_seq ?_
    refine xc_seq ?_
    refine xc_seq ?_
    refine xc_region ?_
    refine xo_rd (rd_move rfl) rfl ?_
    refine xo_ef rfl (ef_call rfl (XF.mono (xf_LenN) ?_))
    rintro v L' ⟨rfl, rfl⟩
    refine xo_rd (rd_eql rfl rfl) rfl ?_
    refine xo_nil ?_
    refine xq_seq ?_
    refine xc_condt rfl ?_
    refine xc_seq ?_
    refine xc_region ?_
    refine xo_rd (rd_assign rfl) rfl ?_
    refine xo_rd (rd_assign rfl) rfl ?_
    refine xo_nil ?_
    refine xq_seq ?_
    refine xc_ret ?_
    refine xq_then_ret ?_
  exact xq_ret2 (.inl rfl) Try.results39 rfl rfl ⟨rfl, rfl⟩
theorem xf_AShiftN {W : World} {L : List Blk} : XF Try.prog W 41 #[.pointer none] L (fun v L' => v = .tuple #[.slice none 0 0, .bool false] ∧ L' = L) := by
  refine xf_enter (args := [_]) Try.func41 rfl Try.ntmps41 rfl ?_
  focus
    refine xc_seq ?_
    refine xc_region ?_
    refine xo_rd (rd_assign rfl) rfl ?_
    refine xo_rd (rd_assign rfl) rfl ?_
    refine xo_nil ?_
    refine xq_seq ?_
    refine xc_seq ?_
    refine xc_region ?_
    refine xo_rd (rd_move rfl) rfl ?_
    refine xo_ef rfl (ef_call rfl (XF.mono (xf_AFirstN) ?_))
    rintro v L' ⟨rfl, rfl⟩
    refine xo_rd (rd_move rfl) rfl ?_
    refine xo_rd (rd_extract rfl rfl) rfl ?_
    refine xo_rd (rd_extract rfl rfl) rfl ?_
    refine xo_rd (rd_assign rfl) rfl ?_
    refine xo_rd (rd_assign rfl) rfl ?_
    refine xo_nil ?_
    refine xq_seq ?_
    refine xc_seq ?_
    refine xc_seq ?_
    refine xc_region ?_
    refine xo_rd (rd_move rfl) rfl ?_
    refine xo_nil ?_
    refine xq_seq ?_
    refine xc_condf rfl ?_
    refine xc_skip ?_
    refine xq_seq ?_
    refine xc_seq ?_
    refine xc_region ?_
    refine xo_rd (rd_move rfl) rfl ?_
    refine xo_rd (rd_move rfl) rfl ?_
    refine xo_rd (rd_assign rfl) rfl ?_
    refine xo_rd (rd_assign rfl) rfl ?_
    refine xo_nil ?_
    refine xq_seq ?_
    refine xc_ret ?_
  exact xq_ret2 (.inl rfl) Try.results41 rfl rfl ⟨rfl, rfl⟩
theorem xf_APutN {W : World} {L : List Blk} (s : Int) (p : Option Addr) (n c : Nat) : XF Try.prog W 42 #[.pointer none, .int .u16 s, .slice p n c] L (fun v L' => v = .bool false ∧ L' = L) := by
  refine xf_enter (args := [_, _, _]) Try.func42 rfl Try.ntmps42 rfl ?_
  focus
    refine xc_seq ?_
    refine xc_region ?_
    refine xo_ef rfl (ef_box rfl fun r4 => ?_)
    refine xo_rd (rd_assign rfl) rfl ?_
    refine xo_nil ?_
    refine xq_seq ?_
    refine xc_seq ?_
    refine xc_seq ?_
    refine xc_drawML [0, 1, 2, 4, 12, 20, 36, 4, 132, 260, 516, 1028, 2052, 4164, 8196, 24576, 32768, 98304, 163840, 294912, 32768, 1605632, 2129920] [0, 1, 2, 4, 12, 20, 36, 4, 132, 260, 516, 1028, 2052, 4164, 8196, 24576, 32768, 98304, 163840, 294912, 32768, 1605632, 2129920] (by kernel_rfl) (by kernel_rfl) (by kernel_rfl) ?_
    refine xm_take 0 (m' := 1) rfl (by kernel_rfl) (by first | exact Sb.refl | exact Sb.nil | (repeat (first | exact Sb.nil | exact Sb.refl | exact Sb.app0 | apply Sb.keep | apply Sb.keepApp | apply Sb.cons | apply Sb.app))) (rd_move rfl) rfl (by kernel_rfl) ?_
    refine xm_take 1 (m' := 3) rfl (by kernel_rfl) (by first | exact Sb.refl | exact Sb.nil | (repeat (first | exact Sb.nil | exact Sb.refl | exact Sb.app0 | apply Sb.keep | apply Sb.keepApp | apply Sb.cons | apply Sb.app))) (rd_eqnil rfl) rfl (by kernel_rfl) ?_
    refine xm_take 2 (m' := 7) rfl (by kernel_rfl) (by first | exact Sb.refl | exact Sb.nil | (repeat (first | exact Sb.nil | exact Sb.refl | exact Sb.app0 | apply Sb.keep | apply Sb.keepApp | apply Sb.cons | apply Sb.app))) (rd_move rfl) rfl (by kernel_rfl) ?_
    refine xm_gskip 3 (m' := 15) rfl (by kernel_rfl) (by first | exact Sb.refl | exact Sb.nil | (repeat (first | exact Sb.nil | exact Sb.refl | exact Sb.app0 | apply Sb.keep | apply Sb.keepApp | apply Sb.cons | apply Sb.app))) rfl rfl rfl rfl (by kernel_rfl) ?_
    refine xm_gskip 4 (m' := 31) rfl (by kernel_rfl) (by first | exact Sb.refl | exact Sb.nil | (repeat (first | exact Sb.nil | exact Sb.refl | exact Sb.app0 | apply Sb.keep | apply Sb.keepApp | apply Sb.cons | apply Sb.app))) rfl rfl rfl rfl (by kernel_rfl) ?_
    refine xm_gskip 5 (m' := 63) rfl (by kernel_rfl) (by first | exact Sb.refl | exact Sb.nil | (repeat (first | exact Sb.nil | exact Sb.refl | exact Sb.app0 | apply Sb.keep | apply Sb.keepApp | apply Sb.cons | apply Sb.app))) rfl rfl rfl rfl (by kernel_rfl) ?_
    refine xm_gskip 6 (m' := 127) rfl (by kernel_rfl) (by first | exact Sb.refl | exact Sb.nil | (repeat (first | exact Sb.nil | exact Sb.refl | exact Sb.app0 | apply Sb.keep | apply Sb.keepApp | apply Sb.cons | apply Sb.app))) rfl rfl rfl rfl (by kernel_rfl) ?_
    refine xm_gskip 7 (m' := 255) rfl (by kernel_rfl) (by first | exact Sb.refl | exact Sb.nil | (repeat (first | exact Sb.nil | exact Sb.refl | exact Sb.app0 | apply Sb.keep | apply Sb.keepApp | apply Sb.cons | apply Sb.app))) rfl rfl rfl rfl (by kernel_rfl) ?_
    refine xm_gskip 8 (m' := 511) rfl (by kernel_rfl) (by first | exact Sb.refl | exact Sb.nil | (repeat (first | exact Sb.nil | exact Sb.refl | exact Sb.app0 | apply Sb.keep | apply Sb.keepApp | apply Sb.cons | apply Sb.app))) rfl rfl rfl rfl (by kernel_rfl) ?_
    refine xm_gskip 9 (m' := 1023) rfl (by kernel_rfl) (by first | exact Sb.refl | exact Sb.nil | (repeat (first | exact Sb.nil | exact Sb.refl | exact Sb.app0 | apply Sb.keep | apply Sb.keepApp | apply Sb.cons | apply Sb.app))) rfl rfl rfl rfl (by kernel_rfl) ?_
    refine xm_gskip 10 (m' := 2047) rfl (by kernel_rfl) (by first | exact Sb.refl | exact Sb.nil | (repeat (first | exact Sb.nil | exact Sb.refl | exact Sb.app0 | apply Sb.keep | apply Sb.keepApp | apply Sb.cons | apply Sb.app))) rfl rfl rfl rfl (by kernel_rfl) ?_
    refine xm_gskip 11 (m' := 4095) rfl (by kernel_rfl) (by first | exact Sb.refl | exact Sb.nil | (repeat (first | exact Sb.nil | exact Sb.refl | exact Sb.app0 | apply Sb.keep | apply Sb.keepApp | apply Sb.cons | apply Sb.app))) rfl rfl rfl rfl (by kernel_rfl) ?_
    refine xm_gskip 12 (m' := 8191) rfl (by kernel_rfl) (by first | exact Sb.refl | exact Sb.nil | (repeat (first | exact Sb.nil | exact Sb.refl | exact Sb.app0 | apply Sb.keep | apply Sb.keepApp | apply Sb.cons | apply Sb.app))) rfl rfl rfl rfl (by kernel_rfl) ?_
    refine xm_gskip 13 (m' := 16383) rfl (by kernel_rfl) (by first | exact Sb.refl | exact Sb.nil | (repeat (first | exact Sb.nil | exact Sb.refl | exact Sb.app0 | apply Sb.keep | apply Sb.keepApp | apply Sb.cons | apply Sb.app))) rfl rfl rfl rfl (by kernel_rfl) ?_
    refine xm_take 14 (m' := 32767) rfl (by kernel_rfl) (by first | exact Sb.refl | exact Sb.nil | (repeat (first | exact Sb.nil | exact Sb.refl | exact Sb.app0 | apply Sb.keep | apply Sb.keepApp | apply Sb.cons | apply Sb.app))) (rd_pickt rfl rfl) rfl (by kernel_rfl) ?_
    refine xm_take 15 (m' := 65535) rfl (by kernel_rfl) (by first | exact Sb.refl | exact Sb.nil | (repeat (first | exact Sb.nil | exact Sb.refl | exact Sb.app0 | apply Sb.keep | apply Sb.keepApp | apply Sb.cons | apply Sb.app))) (rd_move rfl) rfl (by kernel_rfl) ?_
    refine xm_gskip 16 (m' := 131071) rfl (by kernel_rfl) (by first | exact Sb.refl | exact Sb.nil | (repeat (first | exact Sb.nil | exact Sb.refl | exact Sb.app0 | apply Sb.keep | apply Sb.keepApp | apply Sb.cons | apply Sb.app))) rfl rfl rfl rfl (by kernel_rfl) ?_
    refine xm_gskip 17 (m' := 262143) rfl (by kernel_rfl) (by first | exact Sb.refl | exact Sb.nil | (repeat (first | exact Sb.nil | exact Sb.refl | exact Sb.app0 | apply Sb.keep | apply Sb.keepApp | apply Sb.cons | apply Sb.app))) rfl rfl rfl rfl (by kernel_rfl) ?_
    refine xm_gskip 18 (m' := 524287) rfl (by kernel_rfl) (by first | exact Sb.refl | exact Sb.nil | (repeat (first | exact Sb.nil | exact Sb.refl | exact Sb.app0 | apply Sb.keep | apply Sb.keepApp | apply Sb.cons | apply Sb.app))) rfl rfl rfl rfl (by kernel_rfl) ?_
    refine xm_gskip 19 (m' := 1048575) rfl (by kernel_rfl) (by first | exact Sb.refl | exact Sb.nil | (repeat (first | exact Sb.nil | exact Sb.refl | exact Sb.app0 | apply Sb.keep | apply Sb.keepApp | apply Sb.cons | apply Sb.app))) rfl rfl rfl rfl (by kernel_rfl) ?_
    refine xm_gskip 20 (m' := 2097151) rfl (by kernel_rfl) (by first | exact Sb.refl | exact Sb.nil | (repeat (first | exact Sb.nil | exact Sb.refl | exact Sb.app0 | apply Sb.keep | apply Sb.keepApp | apply Sb.cons | apply Sb.app))) rfl rfl rfl rfl (by kernel_rfl) ?_
    refine xm_gskip 21 (m' := 4194303) rfl (by kernel_rfl) (by first | exact Sb.refl | exact Sb.nil | (repeat (first | exact Sb.nil | exact Sb.refl | exact Sb.app0 | apply Sb.keep | apply Sb.keepApp | apply Sb.cons | apply Sb.app))) rfl rfl rfl rfl (by kernel_rfl) ?_
    refine xm_take 22 (m' := 8388607) rfl (by kernel_rfl) (by first | exact Sb.refl | exact Sb.nil | (repeat (first | exact Sb.nil | exact Sb.refl | exact Sb.app0 | apply Sb.keep | apply Sb.keepApp | apply Sb.cons | apply Sb.app))) (rd_pickt rfl rfl) rfl (by kernel_rfl) ?_
    refine xm_done (by kernel_rfl) ?_
    refine xq_seq ?_
    refine xc_condt rfl ?_
    refine xc_seq ?_
    refine xc_region ?_
    refine xo_rd (rd_assign rfl) rfl ?_
    refine xo_nil ?_
    refine xq_seq ?_
    refine xc_ret ?_
    refine xq_then_ret ?_
  exact xq_tail (xq_ret1 (.inl rfl) Try.results42 rfl ⟨rfl, rfl⟩)
set_option maxHeartbeats 1600000 in
theorem xf_ClassesNone {W : World} {L : List Blk} (e : En) (he : e.i.f.At W L) (s : Int) : XF Try.prog W 6 #[.agg e.enc.toArray, .int .u16 s] L (fun v L' => v = .bool true ∧ L' = L) := by
  refine xf_enter (args := [_, _]) Try.func6 rfl Try.ntmps6 rfl ?_
  focus
    refine xc_seq ?_
    refine xc_region ?_
    refine xo_ef rfl (ef_box rfl fun r2 => ?_)
    refine xo_rd (rd_assign rfl) rfl ?_
    refine xo_nil ?_
    refine xq_seq ?_
    refine xc_seq ?_
    refine xc_seq ?_
    refine xc_region ?_
    refine xo_rd (rd_fieldAddr rfl) rfl ?_
    refine xo_rd (rd_fieldAddr rfl) rfl ?_
    refine xo_rd (rd_loadA (vs := e.i.f.enc) rfl rfl (cl_sub (b := r2) (vs := e.enc) (T := 45) (fr := (0, 0)) _ (by first | exact List.Mem.head _ | exact List.Mem.tail _ (List.Mem.head _) | exact List.Mem.tail _ (List.Mem.tail _ (List.Mem.head _)) | exact List.Mem.tail _ (List.Mem.tail _ (List.Mem.tail _ (List.Mem.head _))) | exact List.Mem.tail _ (List.Mem.tail _ (List.Mem.tail _ (List.Mem.tail _ (List.Mem.head _)))) | exact List.Mem.tail _ (List.Mem.tail _ (List.Mem.tail _ (List.Mem.tail _ (List.Mem.tail _ (List.Mem.head _))))) | exact List.Mem.tail _ (List.Mem.tail _ (List.Mem.tail _ (List.Mem.tail _ (List.Mem.tail _ (List.Mem.tail _ (List.Mem.head _)))))) | exact List.Mem.tail _ (List.Mem.tail _ (List.Mem.tail _ (List.Mem.tail _ (List.Mem.tail _ (List.Mem.tail _ (List.Mem.tail _ (List.Mem.head _)))))))) rfl)) rfl ?_
    refine xo_ef rfl (ef_call rfl (XF.mono (xf_FewFrame e.i.f (he.mono (by intro z hz; simp [hz]))) ?_))
    rintro v L' ⟨b, rfl, hb, rfl⟩
    refine xo_rd (rd_not rfl) rfl ?_
    refine xo_nil ?_
    refine xq_seq ?_
    refine xc_cond rfl (fun hz1 => ?_) (fun hz1 => ?_)
    refine xc_seq ?_
    refine xc_region ?_
    refine xo_ef rfl (ef_call rfl (XF.mono (xf_works) ?_))
    rintro v L' ⟨rfl, rfl⟩
    refine xo_rd (rd_assign rfl) rfl ?_
    refine xo_nil ?_
    refine xq_seq ?_
    refine xc_ret ?_
    refine xq_then_ret ?_
    rotate_left
    refine xc_skip ?_
    refine xq_seq ?_
    rotate_left
  · exact xq_tail (xq_ret1 (.inl rfl) Try.results6 rfl ⟨rfl, rfl⟩)
  focus
    refine xc_seq ?_
    refine xc_region ?_
    refine xo_rd (rd_assign rfl) rfl ?_
    refine xo_nil ?_
    refine xq_seq ?_
    refine xc_seq ?_
    refine xc_region ?_
    refine xo_rd (rd_assign rfl) rfl ?_
    refine xo_nil ?_
    refine xq_seq ?_
    refine xc_seq ?_
    refine xc_region ?_
    refine xo_rd (rd_move rfl) rfl ?_
    refine xo_ef rfl (ef_call rfl (XF.mono (xf_FirstN) ?_))
    rintro v L' ⟨rfl, rfl⟩
    refine xo_rd (rd_move rfl) rfl ?_
    refine xo_rd (rd_extract rfl rfl) rfl ?_
    refine xo_rd (rd_extract rfl rfl) rfl ?_
    refine xo_ef rfl (ef_alloc fun r7 => ?_)
    refine xo_ef rfl (ef_storeB [] _ rfl rfl (by first | rfl | assumption) rfl rfl rfl ?_)
    refine xo_rd (rd_assign rfl) rfl ?_
    refine xo_nil ?_
    refine xq_seq ?_
    refine xc_seq ?_
    refine xc_region ?_
    refine xo_rd (rd_move rfl) rfl ?_
    refine xo_ef rfl (ef_call rfl (XF.mono (xf_ShiftN) ?_))
    rintro v L' ⟨rfl, rfl⟩
    refine xo_rd (rd_move rfl) rfl ?_
    refine xo_rd (rd_extract rfl rfl) rfl ?_
    refine xo_rd (rd_extract rfl rfl) rfl ?_
    refine xo_ef rfl (ef_alloc fun r9 => ?_)
    refine xo_ef rfl (ef_storeB [] _ rfl rfl (by first | rfl | assumption) rfl rfl rfl ?_)
    refine xo_rd (rd_assign rfl) rfl ?_
    refine xo_nil ?_
    refine xq_seq ?_
    refine xc_seq ?_
    refine xc_region ?_
    refine xo_rd (rd_move rfl) rfl ?_
    refine xo_ef rfl (ef_call rfl (XF.mono (xf_AFirstN) ?_))
    rintro v L' ⟨rfl, rfl⟩
    refine xo_rd (rd_move rfl) rfl ?_
    refine xo_rd (rd_extract rfl rfl) rfl ?_
    refine xo_rd (rd_extract rfl rfl) rfl ?_
    refine xo_rd (rd_assign rfl) rfl ?_
    refine xo_rd (rd_assign rfl) rfl ?_
    refine xo_nil ?_
    refine xq_seq ?_
    refine xc_seq ?_
    refine xc_region ?_
    refine xo_rd (rd_move rfl) rfl ?_
    refine xo_ef rfl (ef_call rfl (XF.mono (xf_AShiftN) ?_))
    rintro v L' ⟨rfl, rfl⟩
    refine xo_rd (rd_move rfl) rfl ?_
    refine xo_rd (rd_extract rfl rfl) rfl ?_
    refine xo_rd (rd_extract rfl rfl) rfl ?_
    refine xo_rd (rd_assign rfl) rfl ?_
    refine xo_rd (rd_assign rfl) rfl ?_
    refine xo_nil ?_
    refine xq_seq ?_
  focus
    refine xc_seq ?_
    refine xc_region ?_
    refine xo_rd (rd_move rfl) rfl ?_
    refine xo_rd (rd_loadB rfl Kn.o2 (by rfl)) rfl ?_
    refine xo_ef rfl (ef_sliceA (vs := e.enc) rfl rfl (by rw [En.len]; decide) (by rw [En.len]; decide) fun r43 => ?_)
    refine xo_ef rfl (ef_call rfl (XF.mono (xf_Put0 _ _ _) ?_))
    rintro v L' ⟨rfl, rfl⟩
    refine xo_rd (rd_eql rfl rfl) rfl ?_
    refine xo_rd (rd_move rfl) rfl ?_
    refine xo_grd rfl rfl (rd_move rfl) rfl ?_
    refine xo_grd rfl rfl (rd_not rfl) rfl ?_
    refine xo_rd (rd_pickt rfl rfl) rfl ?_
    refine xo_rd (rd_move rfl) rfl ?_
    refine xo_grd rfl rfl (rd_move rfl) rfl ?_
    refine xo_gef rfl rfl rfl (ef_call rfl (XF.mono (xf_BeginN) ?_))
    rintro v L' ⟨rfl, rfl⟩
    refine xo_grd rfl rfl (rd_not rfl) rfl ?_
    refine xo_rd (rd_pickt rfl rfl) rfl ?_
    refine xo_rd (rd_move rfl) rfl ?_
    refine xo_grd rfl rfl (rd_move rfl) rfl ?_
    refine xo_gef rfl rfl rfl (ef_call rfl (XF.mono (xf_BegunN) ?_))
    rintro v L' ⟨rfl, rfl⟩
    refine xo_grd rfl rfl (rd_not rfl) rfl ?_
    refine xo_rd (rd_pickt rfl rfl) rfl ?_
    refine xo_rd (rd_move rfl) rfl ?_
    refine xo_grd rfl rfl (rd_move rfl) rfl ?_
    refine xo_grd rfl rfl (rd_not rfl) rfl ?_
    refine xo_rd (rd_pickt rfl rfl) rfl ?_
    refine xo_rd (rd_move rfl) rfl ?_
    refine xo_grd rfl rfl (rd_move rfl) rfl ?_
    refine xo_gef rfl rfl rfl (ef_call rfl (XF.mono (xf_FramesN) ?_))
    rintro v L' ⟨rfl, rfl⟩
    refine xo_grd rfl rfl (rd_eql rfl rfl) rfl ?_
    refine xo_rd (rd_pickt rfl rfl) rfl ?_
    refine xo_rd (rd_move rfl) rfl ?_
    refine xo_grd rfl rfl (rd_move rfl) rfl ?_
    refine xo_gef rfl rfl rfl (ef_call rfl (XF.mono (xf_HasN _ _) ?_))
    rintro v L' ⟨rfl, rfl⟩
    refine xo_grd rfl rfl (rd_not rfl) rfl ?_
    refine xo_rd (rd_pickt rfl rfl) rfl ?_
    refine xo_rd (rd_move rfl) rfl ?_
    refine xo_grd rfl rfl (rd_move rfl) rfl ?_
    refine xo_gef rfl rfl rfl (ef_call rfl (XF.mono (xf_AllN) ?_))
    rintro v L' ⟨rfl, rfl⟩
    refine xo_grd rfl rfl (rd_len rfl) rfl ?_
    refine xo_grd rfl rfl (rd_eql rfl rfl) rfl ?_
    refine xo_rd (rd_pickt rfl rfl) rfl ?_
    refine xo_rd (rd_move rfl) rfl ?_
    refine xo_grd rfl rfl (rd_move rfl) rfl ?_
    refine xo_grd rfl rfl (rd_move rfl) rfl ?_
    refine xo_gef rfl rfl rfl (ef_call rfl (XF.mono (xf_APutN _ _ _ _) ?_))
    rintro v L' ⟨rfl, rfl⟩
    refine xo_grd rfl rfl (rd_not rfl) rfl ?_
    refine xo_rd (rd_pickt rfl rfl) rfl ?_
    refine xo_rd (rd_move rfl) rfl ?_
    refine xo_grd rfl rfl (rd_move rfl) rfl ?_
    refine xo_grd rfl rfl (rd_not rfl) rfl ?_
    refine xo_rd (rd_pickt rfl rfl) rfl ?_
    refine xo_rd (rd_move rfl) rfl ?_
    refine xo_grd rfl rfl (rd_move rfl) rfl ?_
    refine xo_grd rfl rfl (rd_not rfl) rfl ?_
    refine xo_rd (rd_pickt rfl rfl) rfl ?_
    refine xo_rd (rd_move rfl) rfl ?_
    refine xo_grd rfl rfl (rd_move rfl) rfl ?_
    refine xo_gef rfl rfl rfl (ef_call rfl (XF.mono (xf_LenN) ?_))
    rintro v L' ⟨rfl, rfl⟩
    refine xo_grd rfl rfl (rd_eql rfl rfl) rfl ?_
    refine xo_rd (rd_pickt rfl rfl) rfl ?_
    refine xo_rd (rd_move rfl) rfl ?_
    refine xo_gef rfl rfl rfl (ef_call rfl (XF.mono (xf_works) ?_))
    rintro v L' ⟨rfl, rfl⟩
    refine xo_rd (rd_pickt rfl rfl) rfl ?_
    refine xo_rd (rd_assign rfl) rfl ?_
    refine xo_nil ?_
    refine xq_seq ?_
    refine xc_ret ?_
  exact xq_sub (List.sublist_append_right [_, _, _, _] _) (xq_ret1 (.inl rfl) Try.results6 rfl ⟨rfl, rfl⟩)
end Go.Proofs.Ytpheiklhjelkcaa.X
/-
  Chapter 19: packets that are sent again: walks of my own.
-/
namespace Go.Proofs.Ytpheiklhjelkcaa.X
open Go Go.RowKit
set_option linter.unusedVariables false
set_option linter.unusedSimpArgs false
/-- A packet that is sent again. -/
structure Pk where
  s : Int
  b : List Int
  p : Option Addr
  c : Nat
def Pk.enc (x : Pk) : List Value := [.int .u16 x.s, .slice x.p x.b.length x.c]
theorem Pk.len (x : Pk) : x.enc.length = 2 := rfl
theorem Pk.one (x : Pk) : x.enc.all (·.oneCell') = true := rfl
def acl (most : Int) (p : Option Addr) (n c : Nat) : List Value := [.int .i64 most, .slice p n c]
/-- A row of packets that are read. -/
structure PkR (W : World) (L : List Blk) (es : List Pk) : Prop where
  b : ∀ e, e ∈ es → Rs W L e.p (ints .u8 e.b)
  n : ∀ e, e ∈ es → e.b.length ≤ 1000
theorem PkR.mono {W : World} {L L' : List Blk} {es : List Pk} (h : PkR W L es) (hm : ∀ z, z ∈ L → z ∈ L') : PkR W L' es := ⟨fun e he => (h.b e he).mono hm, h.n⟩
theorem xf_NewA {W : World} {L : List Blk} (b : Int) (hb : 1 ≤ b ∧ b ≤ 256) : XF Try.prog W 38 #[.int .i64 b] L (fun v L' => ∃ r, v = .tuple #[.pointer (some ⟨r, 0, none⟩), .int .i64 0] ∧ L' = (r, .cells (acl b none 0 0).toArray 127 (0, 0)) :: L) := by
  refine xf_enter (args := [_]) Try.func38 rfl Try.ntmps38 rfl ?_
  focus
    refine xc_seq ?_
    refine xc_region ?_
    refine xo_rd (rd_assign rfl) rfl ?_
    refine xo_rd (rd_assign rfl) rfl ?_
    refine xo_nil ?_
    refine xq_seq ?_
    refine xc_seq ?_
    refine xc_region ?_
    refine xo_rd (rd_move rfl) rfl ?_
    refine xo_rd (rd_build rfl rfl rfl) rfl ?_
    refine xo_ef rfl (ef_alloc fun r4 => ?_)
    refine xo_ef rfl (ef_storeB [] _ rfl rfl (by first | rfl | assumption) rfl rfl rfl ?_)
    refine xo_nil ?_
    refine xq_seq ?_
    refine xc_seq ?_
    refine xc_seq ?_
    refine xc_region ?_
    refine xo_rd (rd_loadB rfl Kn.o0 (by rfl)) rfl ?_
    refine xo_ef rfl (ef_call rfl (XF.mono (xf_right b) ?_))
    rintro v L' ⟨rfl, rfl⟩
    refine xo_rd (rd_not rfl) rfl ?_
    refine xo_nil ?_
    refine xq_seq ?_
    refine xc_cond rfl (fun hz1 => ?_) (fun hz1 => ?_)
    refine xc_seq ?_
    refine xc_region ?_
    refine xo_rd (rd_assign rfl) rfl ?_
    refine xo_rd (rd_assign rfl) rfl ?_
    refine xo_nil ?_
    refine xq_seq ?_
    refine xc_ret ?_
    refine xq_then_ret ?_
    rotate_left
    refine xc_skip ?_
    refine xq_seq ?_
    refine xc_seq ?_
    refine xc_region ?_
    refine xo_rd (rd_loadB rfl Kn.o0 (by rfl)) rfl ?_
    refine xo_rd (rd_cast (v' := .agg (acl b none 0 0).toArray) (rd_build (T := 127) rfl rfl rfl) (by kernel_rfl)) rfl ?_
    refine xo_ef rfl (ef_box rfl fun r12 => ?_)
    refine xo_rd (rd_assign rfl) rfl ?_
    refine xo_rd (rd_assign rfl) rfl ?_
    refine xo_nil ?_
    refine xq_seq ?_
    refine xc_ret ?_
    rotate_left
  · exfalso
    rw [decide_eq_true hb.1, decide_eq_true hb.2] at hz1
    cases hz1
  · exact xq_sub (List.Sublist.cons_cons _ (List.sublist_cons_self _ _)) (xq_ret2 (.inl rfl) Try.results38 rfl rfl ⟨r12, rfl, rfl⟩)
theorem xf_NewA0 {W : World} {L : List Blk} (b : Int) (hb : ¬ (1 ≤ b ∧ b ≤ 256)) : XF Try.prog W 38 #[.int .i64 b] L (fun v L' => v = .tuple #[.pointer none, .int .i64 2] ∧ L' = L) := by
  refine xf_enter (args := [_]) Try.func38 rfl Try.ntmps38 rfl ?_
  focus
    refine xc_seq ?_
    refine xc_region ?_
    refine xo_rd (rd_assign rfl) rfl ?_
    refine xo_rd (rd_assign rfl) rfl ?_
    refine xo_nil ?_
    refine xq_seq ?_
    refine xc_seq ?_
    refine xc_region ?_
    refine xo_rd (rd_move rfl) rfl ?_
    refine xo_rd (rd_build rfl rfl rfl) rfl ?_
    refine xo_ef rfl (ef_alloc fun r4 => ?_)
    refine xo_ef rfl (ef_storeB [] _ rfl rfl (by first | rfl | assumption) rfl rfl rfl ?_)
    refine xo_nil ?_
    refine xq_seq ?_
    refine xc_seq ?_
    refine xc_seq ?_
    refine xc_region ?_
    refine xo_rd (rd_loadB rfl Kn.o0 (by rfl)) rfl ?_
    refine xo_ef rfl (ef_call rfl (XF.mono (xf_right b) ?_))
    rintro v L' ⟨rfl, rfl⟩
    refine xo_rd (rd_not rfl) rfl ?_
    refine xo_nil ?_
    refine xq_seq ?_
    refine xc_cond rfl (fun hz1 => ?_) (fun hz1 => ?_)
    refine xc_seq ?_
    refine xc_region ?_
    refine xo_rd (rd_assign rfl) rfl ?_
    refine xo_rd (rd_assign rfl) rfl ?_
    refine xo_nil ?_
    refine xq_seq ?_
    refine xc_ret ?_
    refine xq_then_ret ?_
    rotate_left
    refine xc_skip ?_
    refine xq_seq ?_
    refine xc_seq ?_
    refine xc_region ?_
    refine xo_rd (rd_loadB rfl Kn.o0 (by rfl)) rfl ?_
    refine xo_rd (rd_build rfl rfl rfl) rfl ?_
    refine xo_ef rfl (ef_box rfl fun r12 => ?_)
    refine xo_rd (rd_assign rfl) rfl ?_
    refine xo_rd (rd_assign rfl) rfl ?_
    refine xo_nil ?_
    refine xq_seq ?_
    refine xc_ret ?_
    rotate_left
  · exact xq_sub (List.sublist_cons_self _ _) (xq_ret2 (.inl rfl) Try.results38 rfl rfl ⟨rfl, rfl⟩)
  · exfalso
    apply hb
    simpa using hz1
theorem xf_ALen {W : World} {L : List Blk} (r : Nat) (p : Option Addr) (n c : Nat) (h : Cl W L r 1 (.slice p n c)) : XF Try.prog W 43 #[.pointer (some ⟨r, 0, none⟩)] L (fun v L' => v = .int .i64 n ∧ L' = L) := by
  refine xf_enter (args := [_]) Try.func43 rfl Try.ntmps43 rfl ?_
  focus
    refine xc_seq ?_
    refine xc_region ?_
    refine xo_rd (rd_assign rfl) rfl ?_
    refine xo_nil ?_
    refine xq_seq ?_
    refine xc_seq ?_
    refine xc_seq ?_
    refine xc_region ?_
    refine xo_rd (rd_move rfl) rfl ?_
    refine xo_rd (rd_eqnil rfl) rfl ?_
    refine xo_nil ?_
    refine xq_seq ?_
    refine xc_condf rfl ?_
    refine xc_skip ?_
    refine xq_seq ?_
    refine xc_seq ?_
    refine xc_region ?_
    refine xo_rd (rd_move rfl) rfl ?_
    refine xo_rd (rd_nilCheck rfl) rfl ?_
    refine xo_rd (rd_fieldAddr rfl) rfl ?_
    refine xo_rd (rd_load1 rfl h) rfl ?_
    refine xo_rd (rd_len rfl) rfl ?_
    refine xo_rd (rd_assign rfl) rfl ?_
    refine xo_nil ?_
    refine xq_seq ?_
    refine xc_ret ?_
  exact xq_ret1 (.inl rfl) Try.results43 rfl ⟨rfl, rfl⟩
theorem xf_AFirst0 {W : World} {L : List Blk} (r : Nat) (p : Option Addr) (c : Nat) (h : Cl W L r 1 (.slice p 0 c)) : XF Try.prog W 39 #[.pointer (some ⟨r, 0, none⟩)] L (fun v L' => v = .tuple #[.slice none 0 0, .bool false] ∧ L' = L) := by
  refine xf_enter (args := [_]) Try.func39 rfl Try.ntmps39 rfl ?_
  focus
    refine xc_seq ?_
    refine xc_region ?_
    refine xo_rd (rd_assign rfl) rfl ?_
    refine xo_rd (rd_assign rfl) rfl ?_
    refine xo_nil ?_
    refine xq_seq ?_
    refine xc_seq ?_
    refine xc_seq ?_
    refine xc_region ?_
    refine xo_rd (rd_move rfl) rfl ?_
    refine xo_ef rfl (ef_call rfl (XF.mono (xf_ALen r p 0 c h) ?_))
    rintro v L' ⟨rfl, rfl⟩
    refine xo_rd (rd_eql rfl rfl) rfl ?_
    refine xo_nil ?_
    refine xq_seq ?_
    refine xc_condt rfl ?_
    refine xc_seq ?_
    refine xc_region ?_
    refine xo_rd (rd_assign rfl) rfl ?_
    refine xo_rd (rd_assign rfl) rfl ?_
    refine xo_nil ?_
    refine xq_seq ?_
    refine xc_ret ?_
    refine xq_then_ret ?_
  exact xq_ret2 (.inl rfl) Try.results39 rfl rfl ⟨rfl, rfl⟩
theorem xf_AFirst {W : World} {L : List Blk} (r : Nat) (p : Option Addr) (c : Nat) (e : Pk) (es : List Pk) (h : Cl W L r 1 (.slice p (es.length + 1) c)) (hr : Rs W L p ((e :: es).flatMap Pk.enc)) (hb : Rs W L e.p (ints .u8 e.b)) (hn : e.b.length ≤ 1000) :
    XF Try.prog W 39 #[.pointer (some ⟨r, 0, none⟩)] L (fun v L' => ∃ q k l, v = .tuple #[.slice q e.b.length k, .bool true] ∧ SlO 1 5 (.slice q e.b.length k) e.b.length (ints .u8 e.b) l ∧ L' = l ++ L) := by
  obtain ⟨bb, o, hp, hc⟩ := hr.rows Pk.len (by decide) (Nat.succ_pos _)
  subst hp
  have hc0 := hc 0 (Nat.succ_pos _) 1 _ rfl
  have hc1 : Cl W L bb (o + (0 : Int).toNat * 2 + 1) (.slice e.p e.b.length e.c) := hc0
  refine xf_enter (args := [_]) Try.func39 rfl Try.ntmps39 rfl ?_
  focus
    refine xc_seq ?_
    refine xc_region ?_
    refine xo_rd (rd_assign rfl) rfl ?_
    refine xo_rd (rd_assign rfl) rfl ?_
    refine xo_nil ?_
    refine xq_seq ?_
    refine xc_seq ?_
    refine xc_seq ?_
    refine xc_region ?_
    refine xo_rd (rd_move rfl) rfl ?_
    refine xo_ef rfl (ef_call rfl (XF.mono (xf_ALen r _ _ c h) ?_))
    rintro v L' ⟨rfl, rfl⟩
    refine xo_rd (rd_eql rfl rfl) rfl ?_
    refine xo_nil ?_
    refine xq_seq ?_
    refine xc_condf rfl ?_
    refine xc_skip ?_
    refine xq_seq ?_
    refine xc_seq ?_
    refine xc_region ?_
    refine xo_rd (rd_move rfl) rfl ?_
    refine xo_rd (rd_nilCheck rfl) rfl ?_
    refine xo_rd (rd_fieldAddr rfl) rfl ?_
    refine xo_rd (rd_load1 rfl h) rfl ?_
    refine xo_rd (rd_indexAddr rfl rfl (by omega) (by omega)) rfl ?_
    refine xo_rd (rd_fieldAddr rfl) rfl ?_
    refine xo_rd (rd_load1 rfl hc1) rfl ?_
    refine xo_ef rfl (ef_call rfl (XF.mono (xf_clone e.p e.b.length e.c (ints .u8 e.b) (by rw [ints_len, Nat.mul_one]) hb (ints_one _ _) (by omega)) ?_))
    rintro v L' ⟨q, k, l, rfl, hO, hk, rfl⟩
    refine xo_rd (rd_assign rfl) rfl ?_
    refine xo_rd (rd_assign rfl) rfl ?_
    refine xo_nil ?_
    refine xq_seq ?_
    refine xc_ret ?_
  exact xq_ret2 (.inl rfl) Try.results39 rfl rfl ⟨q, k, l, rfl, hO, rfl⟩
end Go.Proofs.Ytpheiklhjelkcaa.X
/-
  Chapter 19: packets that are sent again, put and shifted: walks of my own.
-/
namespace Go.Proofs.Ytpheiklhjelkcaa.X
open Go Go.RowKit
set_option linter.unusedVariables false
set_option linter.unusedSimpArgs false
theorem xf_AShift0 {W : World} {L : List Blk} (r : Nat) (p : Option Addr) (c : Nat) (h : Cl W L r 1 (.slice p 0 c)) : XF Try.prog W 41 #[.pointer (some ⟨r, 0, none⟩)] L (fun v L' => v = .tuple #[.slice none 0 0, .bool false] ∧ L' = L) := by
  refine xf_enter (args := [_]) Try.func41 rfl Try.ntmps41 rfl ?_
  focus
    refine xc_seq ?_
    refine xc_region ?_
    refine xo_rd (rd_assign rfl) rfl ?_
    refine xo_rd (rd_assign rfl) rfl ?_
    refine xo_nil ?_
    refine xq_seq ?_
    refine xc_seq ?_
    refine xc_region ?_
    refine xo_rd (rd_move rfl) rfl ?_
    refine xo_ef rfl (ef_call rfl (XF.mono (xf_AFirst0 r p c h) ?_))
    rintro v L' ⟨rfl, rfl⟩
    refine xo_rd (rd_move rfl) rfl ?_
    refine xo_rd (rd_extract rfl rfl) rfl ?_
    refine xo_rd (rd_extract rfl rfl) rfl ?_
    refine xo_rd (rd_assign rfl) rfl ?_
    refine xo_rd (rd_assign rfl) rfl ?_
    refine xo_nil ?_
    refine xq_seq ?_
    refine xc_seq ?_
    refine xc_seq ?_
    refine xc_region ?_
    refine xo_rd (rd_move rfl) rfl ?_
    refine xo_nil ?_
    refine xq_seq ?_
    refine xc_condf rfl ?_
    refine xc_skip ?_
    refine xq_seq ?_
    refine xc_seq ?_
    refine xc_region ?_
    refine xo_rd (rd_move rfl) rfl ?_
    refine xo_rd (rd_move rfl) rfl ?_
    refine xo_rd (rd_assign rfl) rfl ?_
    refine xo_rd (rd_assign rfl) rfl ?_
    refine xo_nil ?_
    refine xq_seq ?_
    refine xc_ret ?_
  exact xq_ret2 (.inl rfl) Try.results41 rfl rfl ⟨rfl, rfl⟩
theorem xf_AShift {W : World} {M : List Blk} (r : Nat) (most : Int) (p : Option Addr) (c : Nat) (e : Pk) (es : List Pk) (l : List Blk) (hO : SlQ 2 129 (.slice p (es.length + 1) c) (es.length + 1) ((e :: es).flatMap Pk.enc) l) (hb : Rs W M e.p (ints .u8 e.b)) (hn : e.b.length ≤ 1000) :
    XF Try.prog W 41 #[.pointer (some ⟨r, 0, none⟩)] ((r, .cells (acl most p (es.length + 1) c).toArray 127 (0, 0)) :: (l ++ M)) (fun v L' => ∃ q k l' p' c', v = .tuple #[.slice q e.b.length k, .bool true] ∧ SlO 1 5 (.slice q e.b.length k) e.b.length (ints .u8 e.b) l' ∧ SlQ 2 129 (.slice p' es.length c') es.length (es.flatMap Pk.enc) l ∧ L' = (r, .cells (acl most p' es.length c').toArray 127 (0, 0)) :: (l' ++ (l ++ M))) := by
  have hfi := xf_AFirst (W := W) (L := (r, .cells (acl most p (es.length + 1) c).toArray 127 (0, 0)) :: (l ++ M)) r p c e es (Cl.o0 rfl) (hO.rs fun z hz => List.mem_cons_of_mem _ (List.mem_append_left _ hz)) (hb.mono fun z hz => List.mem_cons_of_mem _ (List.mem_append_right _ hz)) hn
  refine xf_enter (args := [_]) Try.func41 rfl Try.ntmps41 rfl ?_
  focus
    refine xc_seq ?_
    refine xc_region ?_
    refine xo_rd (rd_assign rfl) rfl ?_
    refine xo_rd (rd_assign rfl) rfl ?_
    refine xo_nil ?_
    refine xq_seq ?_
    refine xc_seq ?_
    refine xc_region ?_
    refine xo_rd (rd_move rfl) rfl ?_
    refine xo_ef rfl (ef_call rfl (XF.mono (hfi) ?_))
    rintro v L' ⟨q, k, l', rfl, hO', rfl⟩
    refine xo_seg [_] l' _ ?_
    refine xo_rd (rd_move rfl) rfl ?_
    refine xo_rd (rd_extract rfl rfl) rfl ?_
    refine xo_rd (rd_extract rfl rfl) rfl ?_
    refine xo_rd (rd_assign rfl) rfl ?_
    refine xo_rd (rd_assign rfl) rfl ?_
    refine xo_nil ?_
    refine xq_seq ?_
    refine xc_seq ?_
    refine xc_seq ?_
    refine xc_region ?_
    refine xo_rd (rd_move rfl) rfl ?_
    refine xo_nil ?_
    refine xq_seq ?_
    refine xc_condt rfl ?_
    refine xc_region ?_
    refine xo_rd (rd_move rfl) rfl ?_
    refine xo_rd (rd_move rfl) rfl ?_
    refine xo_rd (rd_nilCheck rfl) rfl ?_
    refine xo_rd (rd_fieldAddr rfl) rfl ?_
    refine xo_rd (rd_load1 rfl (Cl.o0 rfl)) rfl ?_
    refine xo_rd (rd_cast (v' := .slice (slp p c 1 2) es.length (c - 1)) (rd_slLo rfl rfl (by decide) (by show (1 : Int) ≤ ((es.length + 1 : Nat) : Int); omega)) rfl) rfl ?_
    refine xo_rd (rd_nilCheck rfl) rfl ?_
    refine xo_rd (rd_fieldAddr rfl) rfl ?_
    refine xo_ef rfl (ef_store1 [] _ rfl rfl (by first | rfl | assumption) rfl rfl rfl ?_)
    refine xo_nil ?_
    refine xq_seq ?_
    refine xc_seq ?_
    refine xc_region ?_
    refine xo_rd (rd_move rfl) rfl ?_
    refine xo_rd (rd_move rfl) rfl ?_
    refine xo_rd (rd_assign rfl) rfl ?_
    refine xo_rd (rd_assign rfl) rfl ?_
    refine xo_nil ?_
    refine xq_seq ?_
    refine xc_ret ?_
  refine xq_ret2 (.inl rfl) Try.results41 rfl rfl ⟨q, k, l', slp p c 1 2, c - 1, rfl, hO', ?_, rfl⟩
  have h1 := hO.cut 1 (Nat.succ_pos _)
  rw [List.flatMap_cons, Nat.one_mul, List.drop_left' (Pk.len e)] at h1
  exact h1
theorem xf_aeq {W : World} {L : List Blk} (e : Pk) (s : Int) (rs : Nat) (h : Cl W L rs 0 (.int .u16 s)) : XF Try.prog W 64 #[.agg e.enc.toArray, .pointer (some ⟨rs, 0, none⟩)] L (fun v L' => v = .bool (decide (e.s = s)) ∧ L' = L) := by
  refine xf_enter (args := [_, _]) Try.func64 rfl Try.ntmps64 rfl ?_
  focus
    refine xc_seq ?_
    refine xc_region ?_
    refine xo_ef rfl (ef_box rfl fun r2 => ?_)
    refine xo_rd (rd_assign rfl) rfl ?_
    refine xo_nil ?_
    refine xq_seq ?_
    refine xc_seq ?_
    refine xc_region ?_
    refine xo_rd (rd_fieldAddr rfl) rfl ?_
    refine xo_rd (rd_load1 rfl (Cl.o0 rfl)) rfl ?_
    refine xo_rd (rd_load1 rfl (h.mono (by intro z hz; simp [hz]))) rfl ?_
    refine xo_rd (rd_eql rfl rfl) rfl ?_
    refine xo_rd (rd_assign rfl) rfl ?_
    refine xo_nil ?_
    refine xq_seq ?_
    refine xc_ret ?_
  exact xq_tail (xq_ret1 (.inl rfl) Try.results64 rfl ⟨rfl, rfl⟩)
def hasS (es : List Pk) (s : Int) : Bool := es.any fun e => decide (e.s = s)
theorem xf_aindex {W : World} {L : List Blk} (p : Option Addr) (n c : Nat) (es : List Pk) (hn : es.length = n) (hr : Rs W L p (es.flatMap Pk.enc)) (s : Int) (rs : Nat) (h : Cl W L rs 0 (.int .u16 s)) (hm : n ≤ 1000000) :
    XF Try.prog W 71 #[.slice p n c, .func (.func 64) #[] #[.pointer (some ⟨rs, 0, none⟩)]] L (fun v L' => (∃ i : Int, v = .int .i64 i ∧ (decide (0 ≤ i)) = hasS es s) ∧ L' = L) := by
  refine xf_enter (args := [_, _]) Try.func71 rfl Try.ntmps71 rfl ?_
  focus
    refine xc_seq ?_
    refine xc_region ?_
    refine xo_rd (rd_assign rfl) rfl ?_
    refine xo_nil ?_
    refine xq_seq ?_
    refine xc_seq ?_
    refine xc_seq ?_
    refine xc_region ?_
    refine xo_rd (rd_move rfl) rfl ?_
    refine xo_rd (rd_len rfl) rfl ?_
    refine xo_rd (rd_move rfl) rfl ?_
    refine xo_nil ?_
    refine xq_seq ?_
    refine xc_block ?_
  refine xc_loopK (ι := Nat) (fun i => i ≤ n ∧ ∀ e, e ∈ es.take i → e.s ≠ s) (fun i => n - i) (fun i => [(0, .slice p n c), (1, .func (.func 64) #[] #[.pointer (some ⟨rs, 0, none⟩)]), (7, .int .i64 n), (8, .int .i64 i)]) 0 ⟨Nat.zero_le _, by simp⟩ (by repeat (first | exact keep_nil | refine keep_cons rfl ?_)) ?_
  rintro i ⟨hi, hno⟩
  by_cases hin : i < n
  · obtain ⟨b, o, hp, hc⟩ := hr.rows Pk.len (by decide) (by omega)
    subst hp
    have hci := hc i (by omega)
    have e1 : es[i]? = some es[i] := List.getElem?_eq_getElem (by omega)
    have hmem : es[i] ∈ es := List.getElem_mem _
    generalize es[i] = e at *
    have hcI : ∀ (j : Nat) (u : Value), e.enc[j]? = some u → Cl W L b (o + (i : Int).toNat * 2 + j) u := fun j u hj => hci j u hj
    focus
      refine xc_seq ?_
      refine xc_region ?_
      refine xo_rd (rd_lss rfl rfl) rfl ?_
      refine xo_nil ?_
      refine xq_seq ?_
      refine xc_seq ?_
      refine xc_dec rfl (fun hz1 => ?_) (fun hz1 => (by exfalso; omega))
      refine xc_skip ?_
      refine xq_seq ?_
      refine xc_seq ?_
      refine xc_block ?_
      refine xc_seq ?_
      refine xc_region ?_
      refine xo_rd (rd_move rfl) rfl ?_
      refine xo_rd (rd_assign rfl) rfl ?_
      refine xo_nil ?_
      refine xq_seq ?_
      refine xc_seq ?_
      refine xc_region ?_
      refine xo_rd (rd_move rfl) rfl ?_
      refine xo_rd (rd_move rfl) rfl ?_
      refine xo_rd (rd_move rfl) rfl ?_
      refine xo_rd (rd_indexAddr rfl rfl (by omega) (by omega)) rfl ?_
      refine xo_rd (rd_loadA (vs := e.enc) rfl rfl hcI) rfl ?_
      refine xo_ef rfl (ef_callv0 (r := .bool (decide (e.s = s))) (vs := [.agg e.enc.toArray]) (first := []) (cap := [.pointer (some ⟨rs, 0, none⟩)]) rfl rfl (xf_aeq e s rs h) ?_)
      refine xo_nil ?_
      refine xq_seq ?_
      refine xc_dec rfl (fun hz2 => ?_) (fun hz2 => ?_)
      refine xc_seq ?_
      refine xc_region ?_
      refine xo_rd (rd_move rfl) rfl ?_
      refine xo_rd (rd_assign rfl) rfl ?_
      refine xo_nil ?_
      refine xq_seq ?_
      refine xc_ret ?_
      refine xq_block_ret ?_
      refine xq_then_ret ?_
      refine xq_then_ret ?_
      refine xq_block_ret ?_
      refine xq_then_ret ?_
      rotate_left
      refine xc_skip ?_
      refine xq_block ?_
      refine xq_seq ?_
      refine xc_region ?_
      refine xo_rd (rd_addn rfl rfl (by omega) (by omega)) rfl ?_
      refine xo_rd (rd_move rfl) rfl ?_
      refine xo_nil ?_
      rotate_left
    · refine xq_ret1 (.inl rfl) Try.results71 rfl ⟨⟨i, rfl, ?_⟩, rfl⟩
      rw [decide_eq_true (by omega)]
      exact (List.any_eq_true.2 ⟨e, hmem, by simpa using hz2⟩).symm
    · refine xq_roundK rfl (i + 1) ⟨by omega, fun x hx => ?_⟩ (by omega) (List.Sublist.refl _) (by repeat (first | exact keep_nil | refine keep_cons rfl ?_))
      rw [List.take_add_one, e1] at hx
      rcases List.mem_append.1 hx with h1 | h1
      · exact hno x h1
      · rw [List.mem_singleton.1 h1]; exact hz2
  · skip
    focus
      refine xc_seq ?_
      refine xc_region ?_
      refine xo_rd (rd_lss rfl rfl) rfl ?_
      refine xo_nil ?_
      refine xq_seq ?_
      refine xc_seq ?_
      refine xc_dec rfl (fun h1 => (by exfalso; omega)) (fun h1 => ?_)
      refine xc_exit ?_
      refine xq_then_exit ?_
      refine xq_then_exit ?_
      refine xq_block_hit ?_
      refine xq_seq ?_
      refine xc_seq ?_
      refine xc_region ?_
      refine xo_rd (rd_assign rfl) rfl ?_
      refine xo_nil ?_
      refine xq_seq ?_
      refine xc_ret ?_
    refine xq_ret1 (.inl rfl) Try.results71 rfl ⟨⟨-1, rfl, ?_⟩, rfl⟩
    rw [List.take_of_length_le (by omega)] at hno
    rw [decide_eq_false (by decide)]
    exact (List.any_eq_false.2 fun e he => by simpa using hno e he).symm
theorem xf_acontains {W : World} {L : List Blk} (p : Option Addr) (n c : Nat) (es : List Pk) (hn : es.length = n) (hr : Rs W L p (es.flatMap Pk.enc)) (s : Int) (rs : Nat) (h : Cl W L rs 0 (.int .u16 s)) (hm : n ≤ 1000000) :
    XF Try.prog W 63 #[.slice p n c, .func (.func 64) #[] #[.pointer (some ⟨rs, 0, none⟩)]] L (fun v L' => v = .bool (hasS es s) ∧ L' = L) := by
  refine xf_enter (args := [_, _]) Try.func63 rfl Try.ntmps63 rfl ?_
  focus
    refine xc_seq ?_
    refine xc_region ?_
    refine xo_rd (rd_assign rfl) rfl ?_
    refine xo_nil ?_
    refine xq_seq ?_
    refine xc_seq ?_
    refine xc_region ?_
    refine xo_rd (rd_move rfl) rfl ?_
    refine xo_rd (rd_move rfl) rfl ?_
    refine xo_ef rfl (ef_call rfl (XF.mono (xf_aindex p n c es hn hr s rs h hm) ?_))
    rintro v L' ⟨⟨ix, rfl, hix⟩, rfl⟩
    refine xo_rd (rd_geq rfl rfl) rfl ?_
    refine xo_rd (rd_assign rfl) rfl ?_
    refine xo_nil ?_
    refine xq_seq ?_
    refine xc_ret ?_
  exact xq_ret1 (.inl rfl) Try.results63 rfl ⟨congrArg Value.bool hix, rfl⟩
end Go.Proofs.Ytpheiklhjelkcaa.X
/-
  Chapter 19: a packet more that is sent again: a walk of my own.
-/
namespace Go.Proofs.Ytpheiklhjelkcaa.X
open Go Go.RowKit
set_option linter.unusedVariables false
set_option linter.unusedSimpArgs false
theorem perm_ap {p q : Blk} (a b R : List Blk) : (a ++ (p :: q :: (b ++ R))).Perm (p :: q :: (b ++ (a ++ R))) := (by classical exact List.perm_iff_count.2 fun a => by simp only [List.append_eq, List.count_append, List.count_cons, List.count_nil, List.cons_append, List.nil_append, List.flatMap_append, List.flatMap_cons, List.flatMap_nil, List.append_nil]; omega)
theorem xf_APutF {W : World} {M : List Blk} (r : Nat) (most : Int) (p : Option Addr) (n c : Nat) (es : List Pk) (l : List Blk) (hn : es.length = n) (hO : SlQ 2 129 (.slice p n c) n (es.flatMap Pk.enc) l) (hm : n ≤ 1000000) (s : Int) (pb : Option Addr) (nb cb : Nat) (hmay : (decide ((n : Int) < most) && !hasS es s) = false) :
    XF Try.prog W 42 #[.pointer (some ⟨r, 0, none⟩), .int .u16 s, .slice pb nb cb] ((r, .cells (acl most p n c).toArray 127 (0, 0)) :: (l ++ M)) (fun v L' => v = .bool false ∧ L' = (r, .cells (acl most p n c).toArray 127 (0, 0)) :: (l ++ M)) := by
  refine xf_enter (args := [_, _, _]) Try.func42 rfl Try.ntmps42 rfl ?_
  focus
    refine xc_seq ?_
    refine xc_region ?_
    refine xo_ef rfl (ef_box rfl fun r4 => ?_)
    refine xo_rd (rd_assign rfl) rfl ?_
    refine xo_nil ?_
    refine xq_seq ?_
    refine xc_seq ?_
    refine xc_seq ?_
    refine xc_drawML [0, 1, 2, 4, 12, 20, 36, 4, 132, 260, 516, 1028, 2052, 4164, 8196, 24576, 32768, 98304, 163840, 294912, 32768, 1605632, 2129920] [0, 1, 2, 4, 12, 20, 36, 4, 132, 260, 516, 1028, 2052, 4164, 8196, 24576, 32768, 98304, 163840, 294912, 32768, 1605632, 2129920] (by kernel_rfl) (by kernel_rfl) (by kernel_rfl) ?_
    refine xm_take 0 (m' := 1) rfl (by kernel_rfl) (by first | exact Sb.refl | exact Sb.nil | (repeat (first | exact Sb.nil | exact Sb.refl | exact Sb.app0 | apply Sb.keep | apply Sb.keepApp | apply Sb.cons | apply Sb.app))) (rd_move rfl) rfl (by kernel_rfl) ?_
    refine xm_take 1 (m' := 3) rfl (by kernel_rfl) (by first | exact Sb.refl | exact Sb.nil | (repeat (first | exact Sb.nil | exact Sb.refl | exact Sb.app0 | apply Sb.keep | apply Sb.keepApp | apply Sb.cons | apply Sb.app))) (rd_eqnil rfl) rfl (by kernel_rfl) ?_
    refine xm_take 2 (m' := 7) rfl (by kernel_rfl) (by first | exact Sb.refl | exact Sb.nil | (repeat (first | exact Sb.nil | exact Sb.refl | exact Sb.app0 | apply Sb.keep | apply Sb.keepApp | apply Sb.cons | apply Sb.app))) (rd_move rfl) rfl (by kernel_rfl) ?_
    refine xm_gtake 3 (m' := 15) rfl (by kernel_rfl) (by first | exact Sb.refl | exact Sb.nil | (repeat (first | exact Sb.nil | exact Sb.refl | exact Sb.app0 | apply Sb.keep | apply Sb.keepApp | apply Sb.cons | apply Sb.app))) rfl rfl (rd_move rfl) rfl (by kernel_rfl) ?_
    refine xm_gtake 4 (m' := 31) rfl (by kernel_rfl) (by first | exact Sb.refl | exact Sb.nil | (repeat (first | exact Sb.nil | exact Sb.refl | exact Sb.app0 | apply Sb.keep | apply Sb.keepApp | apply Sb.cons | apply Sb.app))) rfl rfl (rd_nilCheck rfl) rfl (by kernel_rfl) ?_
    refine xm_gtake 5 (m' := 63) rfl (by kernel_rfl) (by first | exact Sb.refl | exact Sb.nil | (repeat (first | exact Sb.nil | exact Sb.refl | exact Sb.app0 | apply Sb.keep | apply Sb.keepApp | apply Sb.cons | apply Sb.app))) rfl rfl (rd_fieldAddr rfl) rfl (by kernel_rfl) ?_
    refine xm_gtake 6 (m' := 127) rfl (by kernel_rfl) (by first | exact Sb.refl | exact Sb.nil | (repeat (first | exact Sb.nil | exact Sb.refl | exact Sb.app0 | apply Sb.keep | apply Sb.keepApp | apply Sb.cons | apply Sb.app))) rfl rfl (rd_loadA (vs := [.int .i64 most]) rfl rfl (cl_sub (b := r) (vs := acl most p n c) (T := 127) (fr := (0, 0)) 0 (List.Mem.tail _ (List.Mem.head _)) rfl)) rfl (by kernel_rfl) ?_
    refine xm_gtake 7 (m' := 255) rfl (by kernel_rfl) (by first | exact Sb.refl | exact Sb.nil | (repeat (first | exact Sb.nil | exact Sb.refl | exact Sb.app0 | apply Sb.keep | apply Sb.keepApp | apply Sb.cons | apply Sb.app))) rfl rfl (rd_move rfl) rfl (by kernel_rfl) ?_
    refine xm_gtake 8 (m' := 511) rfl (by kernel_rfl) (by first | exact Sb.refl | exact Sb.nil | (repeat (first | exact Sb.nil | exact Sb.refl | exact Sb.app0 | apply Sb.keep | apply Sb.keepApp | apply Sb.cons | apply Sb.app))) rfl rfl (rd_nilCheck rfl) rfl (by kernel_rfl) ?_
    refine xm_gtake 9 (m' := 1023) rfl (by kernel_rfl) (by first | exact Sb.refl | exact Sb.nil | (repeat (first | exact Sb.nil | exact Sb.refl | exact Sb.app0 | apply Sb.keep | apply Sb.keepApp | apply Sb.cons | apply Sb.app))) rfl rfl (rd_fieldAddr rfl) rfl (by kernel_rfl) ?_
    refine xm_gtake 10 (m' := 2047) rfl (by kernel_rfl) (by first | exact Sb.refl | exact Sb.nil | (repeat (first | exact Sb.nil | exact Sb.refl | exact Sb.app0 | apply Sb.keep | apply Sb.keepApp | apply Sb.cons | apply Sb.app))) rfl rfl (rd_load1 rfl (Cl.o1 rfl)) rfl (by kernel_rfl) ?_
    refine xm_gtake 11 (m' := 4095) rfl (by kernel_rfl) (by first | exact Sb.refl | exact Sb.nil | (repeat (first | exact Sb.nil | exact Sb.refl | exact Sb.app0 | apply Sb.keep | apply Sb.keepApp | apply Sb.cons | apply Sb.app))) rfl rfl (rd_len rfl) rfl (by kernel_rfl) ?_
    refine xm_gtake 12 (m' := 8191) rfl (by kernel_rfl) (by first | exact Sb.refl | exact Sb.nil | (repeat (first | exact Sb.nil | exact Sb.refl | exact Sb.app0 | apply Sb.keep | apply Sb.keepApp | apply Sb.cons | apply Sb.app))) rfl rfl (rd_addn rfl rfl (by omega) (by omega)) rfl (by kernel_rfl) ?_
    refine xm_gone 13 (m' := 16383) rfl (by kernel_rfl) rfl rfl rfl (by kernel_rfl) (ef_call rfl (XF.mono (xf_over' most _) ?_))
    rintro v L' ⟨rfl, rfl⟩
    refine ⟨(by first | exact Sb.refl | exact Sb.nil | (repeat (first | exact Sb.nil | exact Sb.refl | exact Sb.app0 | apply Sb.keep | apply Sb.keepApp | apply Sb.cons | apply Sb.app))), ?_⟩
    refine xm_take 14 (m' := 32767) rfl (by kernel_rfl) (by first | exact Sb.refl | exact Sb.nil | (repeat (first | exact Sb.nil | exact Sb.refl | exact Sb.app0 | apply Sb.keep | apply Sb.keepApp | apply Sb.cons | apply Sb.app))) (rd_pickf rfl rfl) rfl (by kernel_rfl) ?_
    refine xm_take 15 (m' := 65535) rfl (by kernel_rfl) (by first | exact Sb.refl | exact Sb.nil | (repeat (first | exact Sb.nil | exact Sb.refl | exact Sb.app0 | apply Sb.keep | apply Sb.keepApp | apply Sb.cons | apply Sb.app))) (rd_move rfl) rfl (by kernel_rfl) ?_
    refine xm_dec 22 rfl (fun hz1 => ?_) (fun hz1 => ?_)
    refine xm_gskip 16 (m' := 131071) rfl (by kernel_rfl) (by first | exact Sb.refl | exact Sb.nil | (repeat (first | exact Sb.nil | exact Sb.refl | exact Sb.app0 | apply Sb.keep | apply Sb.keepApp | apply Sb.cons | apply Sb.app))) rfl rfl rfl rfl (by kernel_rfl) ?_
    refine xm_gskip 17 (m' := 262143) rfl (by kernel_rfl) (by first | exact Sb.refl | exact Sb.nil | (repeat (first | exact Sb.nil | exact Sb.refl | exact Sb.app0 | apply Sb.keep | apply Sb.keepApp | apply Sb.cons | apply Sb.app))) rfl rfl rfl rfl (by kernel_rfl) ?_
    refine xm_gskip 18 (m' := 524287) rfl (by kernel_rfl) (by first | exact Sb.refl | exact Sb.nil | (repeat (first | exact Sb.nil | exact Sb.refl | exact Sb.app0 | apply Sb.keep | apply Sb.keepApp | apply Sb.cons | apply Sb.app))) rfl rfl rfl rfl (by kernel_rfl) ?_
    refine xm_gskip 19 (m' := 1048575) rfl (by kernel_rfl) (by first | exact Sb.refl | exact Sb.nil | (repeat (first | exact Sb.nil | exact Sb.refl | exact Sb.app0 | apply Sb.keep | apply Sb.keepApp | apply Sb.cons | apply Sb.app))) rfl rfl rfl rfl (by kernel_rfl) ?_
    refine xm_gskip 20 (m' := 2097151) rfl (by kernel_rfl) (by first | exact Sb.refl | exact Sb.nil | (repeat (first | exact Sb.nil | exact Sb.refl | exact Sb.app0 | apply Sb.keep | apply Sb.keepApp | apply Sb.cons | apply Sb.app))) rfl rfl rfl rfl (by kernel_rfl) ?_
    refine xm_gskip 21 (m' := 4194303) rfl (by kernel_rfl) (by first | exact Sb.refl | exact Sb.nil | (repeat (first | exact Sb.nil | exact Sb.refl | exact Sb.app0 | apply Sb.keep | apply Sb.keepApp | apply Sb.cons | apply Sb.app))) rfl rfl rfl rfl (by kernel_rfl) ?_
    refine xm_take 22 (m' := 8388607) rfl (by kernel_rfl) (by first | exact Sb.refl | exact Sb.nil | (repeat (first | exact Sb.nil | exact Sb.refl | exact Sb.app0 | apply Sb.keep | apply Sb.keepApp | apply Sb.cons | apply Sb.app))) (rd_pickt rfl rfl) rfl (by kernel_rfl) ?_
    refine xm_done (by kernel_rfl) ?_
    refine xq_seq ?_
    refine xc_condt rfl ?_
    refine xc_seq ?_
    refine xc_region ?_
    refine xo_rd (rd_assign rfl) rfl ?_
    refine xo_nil ?_
    refine xq_seq ?_
    refine xc_ret ?_
    refine xq_then_ret ?_
    rotate_left
    refine xm_gtake 16 (m' := 131071) rfl (by kernel_rfl) (by first | exact Sb.refl | exact Sb.nil | (repeat (first | exact Sb.nil | exact Sb.refl | exact Sb.app0 | apply Sb.keep | apply Sb.keepApp | apply Sb.cons | apply Sb.app))) rfl rfl (rd_move rfl) rfl (by kernel_rfl) ?_
    refine xm_gtake 17 (m' := 262143) rfl (by kernel_rfl) (by first | exact Sb.refl | exact Sb.nil | (repeat (first | exact Sb.nil | exact Sb.refl | exact Sb.app0 | apply Sb.keep | apply Sb.keepApp | apply Sb.cons | apply Sb.app))) rfl rfl (rd_nilCheck rfl) rfl (by kernel_rfl) ?_
    refine xm_gtake 18 (m' := 524287) rfl (by kernel_rfl) (by first | exact Sb.refl | exact Sb.nil | (repeat (first | exact Sb.nil | exact Sb.refl | exact Sb.app0 | apply Sb.keep | apply Sb.keepApp | apply Sb.cons | apply Sb.app))) rfl rfl (rd_fieldAddr rfl) rfl (by kernel_rfl) ?_
    refine xm_gtake 19 (m' := 1048575) rfl (by kernel_rfl) (by first | exact Sb.refl | exact Sb.nil | (repeat (first | exact Sb.nil | exact Sb.refl | exact Sb.app0 | apply Sb.keep | apply Sb.keepApp | apply Sb.cons | apply Sb.app))) rfl rfl (rd_load1 rfl (Cl.o1 rfl)) rfl (by kernel_rfl) ?_
    refine xm_gtake 20 (m' := 2097151) rfl (by kernel_rfl) (by first | exact Sb.refl | exact Sb.nil | (repeat (first | exact Sb.nil | exact Sb.refl | exact Sb.app0 | apply Sb.keep | apply Sb.keepApp | apply Sb.cons | apply Sb.app))) rfl rfl (rd_makeFunc rfl rfl) rfl (by kernel_rfl) ?_
    refine xm_gone 21 (m' := 4194303) rfl (by kernel_rfl) rfl rfl rfl (by kernel_rfl) (ef_call rfl (XF.mono (xf_acontains p n c es hn (hO.rs fun z hz => List.mem_cons_of_mem _ (List.mem_cons_of_mem _ (List.mem_append_left _ hz))) s r4 (Cl.o0 rfl) hm) ?_))
    rintro v L' ⟨rfl, rfl⟩
    refine ⟨(by first | exact Sb.refl | exact Sb.nil | (repeat (first | exact Sb.nil | exact Sb.refl | exact Sb.app0 | apply Sb.keep | apply Sb.keepApp | apply Sb.cons | apply Sb.app))), ?_⟩
    refine xm_take 22 (m' := 8388607) rfl (by kernel_rfl) (by first | exact Sb.refl | exact Sb.nil | (repeat (first | exact Sb.nil | exact Sb.refl | exact Sb.app0 | apply Sb.keep | apply Sb.keepApp | apply Sb.cons | apply Sb.app))) (rd_pickf rfl rfl) rfl (by kernel_rfl) ?_
    refine xm_done (by kernel_rfl) ?_
    refine xq_seq ?_
    refine xc_cond rfl (fun hz2 => ?_) (fun hz2 => ?_)
    refine xc_seq ?_
    refine xc_region ?_
    refine xo_rd (rd_assign rfl) rfl ?_
    refine xo_nil ?_
    refine xq_seq ?_
    refine xc_ret ?_
    refine xq_then_ret ?_
    rotate_left
    refine xc_skip ?_
    refine xq_seq ?_
    rotate_left
  · exact xq_tail (xq_ret1 (.inl rfl) Try.results42 rfl ⟨rfl, rfl⟩)
  · exact xq_tail (xq_ret1 (.inl rfl) Try.results42 rfl ⟨rfl, rfl⟩)
  · exfalso
    rw [hz2, decide_eq_true (by omega)] at hmay
    cases hmay
theorem xf_APutT {W : World} {M : List Blk} (r : Nat) (most : Int) (p : Option Addr) (n c : Nat) (es : List Pk) (l : List Blk) (hn : es.length = n) (hO : SlQ 2 129 (.slice p n c) n (es.flatMap Pk.enc) l) (hm : n ≤ 1000000) (s : Int) (bs : List Int) (pb : Option Addr) (nb cb : Nat) (hb : Rs W M pb (ints .u8 bs)) (hbn : bs.length = nb) (hb2 : nb ≤ 1000) (hmay : (decide ((n : Int) < most) && !hasS es s) = true) :
    XF Try.prog W 42 #[.pointer (some ⟨r, 0, none⟩), .int .u16 s, .slice pb nb cb] ((r, .cells (acl most p n c).toArray 127 (0, 0)) :: (l ++ M)) (fun v L' => ∃ (q : Option Addr) (k : Nat) (p2 : Option Addr) (c2 : Nat) (l2 lb : List Blk), v = .bool true ∧ SlO 1 5 (.slice q nb k) nb (ints .u8 bs) lb ∧ SlQ 2 129 (.slice p2 (n + 1) c2) (n + 1) ((es ++ [(⟨s, bs, q, k⟩ : Pk)]).flatMap Pk.enc) l2 ∧ L' = (r, .cells (acl most p2 (n + 1) c2).toArray 127 (0, 0)) :: (l2 ++ (lb ++ M))) := by
  have h1 : (n : Int) < most := of_decide_eq_true (Bool.and_eq_true _ _ ▸ hmay).1
  have h2 : hasS es s = false := by
    have := (Bool.and_eq_true _ _ ▸ hmay).2
    simpa using this
  subst hbn
  refine xf_enter (args := [_, _, _]) Try.func42 rfl Try.ntmps42 rfl ?_
  have hct := fun L' h r4 h4 => xf_acontains (W := W) (L := L') p n c es hn (hO.rs h) s r4 h4 hm
  rw [h2] at hct
  focus
    refine xc_seq ?_
    refine xc_region ?_
    refine xo_ef rfl (ef_box rfl fun r4 => ?_)
    refine xo_rd (rd_assign rfl) rfl ?_
    refine xo_nil ?_
    refine xq_seq ?_
    refine xc_seq ?_
    refine xc_seq ?_
    refine xc_drawML [0, 1, 2, 4, 12, 20, 36, 4, 132, 260, 516, 1028, 2052, 4164, 8196, 24576, 32768, 98304, 163840, 294912, 32768, 1605632, 2129920] [0, 1, 2, 4, 12, 20, 36, 4, 132, 260, 516, 1028, 2052, 4164, 8196, 24576, 32768, 98304, 163840, 294912, 32768, 1605632, 2129920] (by kernel_rfl) (by kernel_rfl) (by kernel_rfl) ?_
    refine xm_take 0 (m' := 1) rfl (by kernel_rfl) (by first | exact Sb.refl | exact Sb.nil | (repeat (first | exact Sb.nil | exact Sb.refl | exact Sb.app0 | apply Sb.keep | apply Sb.keepApp | apply Sb.cons | apply Sb.app))) (rd_move rfl) rfl (by kernel_rfl) ?_
    refine xm_take 1 (m' := 3) rfl (by kernel_rfl) (by first | exact Sb.refl | exact Sb.nil | (repeat (first | exact Sb.nil | exact Sb.refl | exact Sb.app0 | apply Sb.keep | apply Sb.keepApp | apply Sb.cons | apply Sb.app))) (rd_eqnil rfl) rfl (by kernel_rfl) ?_
    refine xm_take 2 (m' := 7) rfl (by kernel_rfl) (by first | exact Sb.refl | exact Sb.nil | (repeat (first | exact Sb.nil | exact Sb.refl | exact Sb.app0 | apply Sb.keep | apply Sb.keepApp | apply Sb.cons | apply Sb.app))) (rd_move rfl) rfl (by kernel_rfl) ?_
    refine xm_gtake 3 (m' := 15) rfl (by kernel_rfl) (by first | exact Sb.refl | exact Sb.nil | (repeat (first | exact Sb.nil | exact Sb.refl | exact Sb.app0 | apply Sb.keep | apply Sb.keepApp | apply Sb.cons | apply Sb.app))) rfl rfl (rd_move rfl) rfl (by kernel_rfl) ?_
    refine xm_gtake 4 (m' := 31) rfl (by kernel_rfl) (by first | exact Sb.refl | exact Sb.nil | (repeat (first | exact Sb.nil | exact Sb.refl | exact Sb.app0 | apply Sb.keep | apply Sb.keepApp | apply Sb.cons | apply Sb.app))) rfl rfl (rd_nilCheck rfl) rfl (by kernel_rfl) ?_
    refine xm_gtake 5 (m' := 63) rfl (by kernel_rfl) (by first | exact Sb.refl | exact Sb.nil | (repeat (first | exact Sb.nil | exact Sb.refl | exact Sb.app0 | apply Sb.keep | apply Sb.keepApp | apply Sb.cons | apply Sb.app))) rfl rfl (rd_fieldAddr rfl) rfl (by kernel_rfl) ?_
    refine xm_gtake 6 (m' := 127) rfl (by kernel_rfl) (by first | exact Sb.refl | exact Sb.nil | (repeat (first | exact Sb.nil | exact Sb.refl | exact Sb.app0 | apply Sb.keep | apply Sb.keepApp | apply Sb.cons | apply Sb.app))) rfl rfl (rd_loadA (vs := [.int .i64 most]) rfl rfl (cl_sub (b := r) (vs := acl most p n c) (T := 127) (fr := (0, 0)) 0 (List.Mem.tail _ (List.Mem.head _)) rfl)) rfl (by kernel_rfl) ?_
    refine xm_gtake 7 (m' := 255) rfl (by kernel_rfl) (by first | exact Sb.refl | exact Sb.nil | (repeat (first | exact Sb.nil | exact Sb.refl | exact Sb.app0 | apply Sb.keep | apply Sb.keepApp | apply Sb.cons | apply Sb.app))) rfl rfl (rd_move rfl) rfl (by kernel_rfl) ?_
    refine xm_gtake 8 (m' := 511) rfl (by kernel_rfl) (by first | exact Sb.refl | exact Sb.nil | (repeat (first | exact Sb.nil | exact Sb.refl | exact Sb.app0 | apply Sb.keep | apply Sb.keepApp | apply Sb.cons | apply Sb.app))) rfl rfl (rd_nilCheck rfl) rfl (by kernel_rfl) ?_
    refine xm_gtake 9 (m' := 1023) rfl (by kernel_rfl) (by first | exact Sb.refl | exact Sb.nil | (repeat (first | exact Sb.nil | exact Sb.refl | exact Sb.app0 | apply Sb.keep | apply Sb.keepApp | apply Sb.cons | apply Sb.app))) rfl rfl (rd_fieldAddr rfl) rfl (by kernel_rfl) ?_
    refine xm_gtake 10 (m' := 2047) rfl (by kernel_rfl) (by first | exact Sb.refl | exact Sb.nil | (repeat (first | exact Sb.nil | exact Sb.refl | exact Sb.app0 | apply Sb.keep | apply Sb.keepApp | apply Sb.cons | apply Sb.app))) rfl rfl (rd_load1 rfl (Cl.o1 rfl)) rfl (by kernel_rfl) ?_
    refine xm_gtake 11 (m' := 4095) rfl (by kernel_rfl) (by first | exact Sb.refl | exact Sb.nil | (repeat (first | exact Sb.nil | exact Sb.refl | exact Sb.app0 | apply Sb.keep | apply Sb.keepApp | apply Sb.cons | apply Sb.app))) rfl rfl (rd_len rfl) rfl (by kernel_rfl) ?_
    refine xm_gtake 12 (m' := 8191) rfl (by kernel_rfl) (by first | exact Sb.refl | exact Sb.nil | (repeat (first | exact Sb.nil | exact Sb.refl | exact Sb.app0 | apply Sb.keep | apply Sb.keepApp | apply Sb.cons | apply Sb.app))) rfl rfl (rd_addn rfl rfl (by omega) (by omega)) rfl (by kernel_rfl) ?_
    refine xm_gone 13 (m' := 16383) rfl (by kernel_rfl) rfl rfl rfl (by kernel_rfl) (ef_call rfl (XF.mono (xf_over' most _) ?_))
    rintro v L' ⟨rfl, rfl⟩
    refine ⟨(by first | exact Sb.refl | exact Sb.nil | (repeat (first | exact Sb.nil | exact Sb.refl | exact Sb.app0 | apply Sb.keep | apply Sb.keepApp | apply Sb.cons | apply Sb.app))), ?_⟩
    refine xm_take 14 (m' := 32767) rfl (by kernel_rfl) (by first | exact Sb.refl | exact Sb.nil | (repeat (first | exact Sb.nil | exact Sb.refl | exact Sb.app0 | apply Sb.keep | apply Sb.keepApp | apply Sb.cons | apply Sb.app))) (rd_pickf rfl rfl) rfl (by kernel_rfl) ?_
    refine xm_take 15 (m' := 65535) rfl (by kernel_rfl) (by first | exact Sb.refl | exact Sb.nil | (repeat (first | exact Sb.nil | exact Sb.refl | exact Sb.app0 | apply Sb.keep | apply Sb.keepApp | apply Sb.cons | apply Sb.app))) (rd_move rfl) rfl (by kernel_rfl) ?_
    refine xm_dec 22 rfl (fun hz1 => (by exfalso; omega)) (fun hz1 => ?_)
    refine xm_gtake 16 (m' := 131071) rfl (by kernel_rfl) (by first | exact Sb.refl | exact Sb.nil | (repeat (first | exact Sb.nil | exact Sb.refl | exact Sb.app0 | apply Sb.keep | apply Sb.keepApp | apply Sb.cons | apply Sb.app))) rfl rfl (rd_move rfl) rfl (by kernel_rfl) ?_
    refine xm_gtake 17 (m' := 262143) rfl (by kernel_rfl) (by first | exact Sb.refl | exact Sb.nil | (repeat (first | exact Sb.nil | exact Sb.refl | exact Sb.app0 | apply Sb.keep | apply Sb.keepApp | apply Sb.cons | apply Sb.app))) rfl rfl (rd_nilCheck rfl) rfl (by kernel_rfl) ?_
    refine xm_gtake 18 (m' := 524287) rfl (by kernel_rfl) (by first | exact Sb.refl | exact Sb.nil | (repeat (first | exact Sb.nil | exact Sb.refl | exact Sb.app0 | apply Sb.keep | apply Sb.keepApp | apply Sb.cons | apply Sb.app))) rfl rfl (rd_fieldAddr rfl) rfl (by kernel_rfl) ?_
    refine xm_gtake 19 (m' := 1048575) rfl (by kernel_rfl) (by first | exact Sb.refl | exact Sb.nil | (repeat (first | exact Sb.nil | exact Sb.refl | exact Sb.app0 | apply Sb.keep | apply Sb.keepApp | apply Sb.cons | apply Sb.app))) rfl rfl (rd_load1 rfl (Cl.o1 rfl)) rfl (by kernel_rfl) ?_
    refine xm_gtake 20 (m' := 2097151) rfl (by kernel_rfl) (by first | exact Sb.refl | exact Sb.nil | (repeat (first | exact Sb.nil | exact Sb.refl | exact Sb.app0 | apply Sb.keep | apply Sb.keepApp | apply Sb.cons | apply Sb.app))) rfl rfl (rd_makeFunc rfl rfl) rfl (by kernel_rfl) ?_
    refine xm_gone 21 (m' := 4194303) rfl (by kernel_rfl) rfl rfl rfl (by kernel_rfl) (ef_call rfl (XF.mono (hct _ (fun z hz => List.mem_cons_of_mem _ (List.mem_cons_of_mem _ (List.mem_append_left _ hz))) r4 (Cl.o0 rfl)) ?_))
    rintro v L' ⟨rfl, rfl⟩
    refine ⟨(by first | exact Sb.refl | exact Sb.nil | (repeat (first | exact Sb.nil | exact Sb.refl | exact Sb.app0 | apply Sb.keep | apply Sb.keepApp | apply Sb.cons | apply Sb.app))), ?_⟩
    refine xm_take 22 (m' := 8388607) rfl (by kernel_rfl) (by first | exact Sb.refl | exact Sb.nil | (repeat (first | exact Sb.nil | exact Sb.refl | exact Sb.app0 | apply Sb.keep | apply Sb.keepApp | apply Sb.cons | apply Sb.app))) (rd_pickf rfl rfl) rfl (by kernel_rfl) ?_
    refine xm_done (by kernel_rfl) ?_
    refine xq_seq ?_
    refine xc_condf rfl ?_
    refine xc_skip ?_
    refine xq_seq ?_
  focus
    refine xc_seq ?_
    refine xc_drawM [0, 0, 2, 4, 8, 0, 0, 64, 160, 256, 656, 2047, 4095, 6143] [0, 0, 2, 4, 8, 0, 0, 64, 160, 256, 656, 2047, 4095, 6143] ((r4, .cells #[.int .u16 s] 36 (0, 0)) :: M) (by kernel_rfl) (by kernel_rfl) (by kernel_rfl) ?_
    refine xm_take 0 (m' := 1) rfl (by kernel_rfl) (by first | exact Sb.refl | exact Sb.nil | (repeat (first | exact Sb.nil | exact Sb.refl | exact Sb.app0 | apply Sb.keep | apply Sb.keepApp | apply Sb.cons | apply Sb.app))) (rd_move rfl) rfl (by kernel_rfl) ?_
    refine xm_take 1 (m' := 3) rfl (by kernel_rfl) (by first | exact Sb.refl | exact Sb.nil | (repeat (first | exact Sb.nil | exact Sb.refl | exact Sb.app0 | apply Sb.keep | apply Sb.keepApp | apply Sb.cons | apply Sb.app))) (rd_move rfl) rfl (by kernel_rfl) ?_
    refine xm_take 2 (m' := 7) rfl (by kernel_rfl) (by first | exact Sb.refl | exact Sb.nil | (repeat (first | exact Sb.nil | exact Sb.refl | exact Sb.app0 | apply Sb.keep | apply Sb.keepApp | apply Sb.cons | apply Sb.app))) (rd_nilCheck rfl) rfl (by kernel_rfl) ?_
    refine xm_take 3 (m' := 15) rfl (by kernel_rfl) (by first | exact Sb.refl | exact Sb.nil | (repeat (first | exact Sb.nil | exact Sb.refl | exact Sb.app0 | apply Sb.keep | apply Sb.keepApp | apply Sb.cons | apply Sb.app))) (rd_fieldAddr rfl) rfl (by kernel_rfl) ?_
    refine xm_take 5 (m' := 47) rfl (by kernel_rfl) (by first | exact Sb.refl | exact Sb.nil | (repeat (first | exact Sb.nil | exact Sb.refl | exact Sb.app0 | apply Sb.keep | apply Sb.keepApp | apply Sb.cons | apply Sb.app))) (rd_load1 rfl (Cl.o0 rfl)) rfl (by kernel_rfl) ?_
    refine xm_take 6 (m' := 111) rfl (by kernel_rfl) (by first | exact Sb.refl | exact Sb.nil | (repeat (first | exact Sb.nil | exact Sb.refl | exact Sb.app0 | apply Sb.keep | apply Sb.keepApp | apply Sb.cons | apply Sb.app))) (rd_move rfl) rfl (by kernel_rfl) ?_
    refine xm_two 4 7 (mi := 127) (mk := 239) rfl rfl (by kernel_rfl) rfl rfl (by kernel_rfl) (by kernel_rfl) (ef_rd (rd_load1 rfl (Cl.o1 rfl)) ⟨(by first | exact Sb.refl | exact Sb.nil | (repeat (first | exact Sb.nil | exact Sb.refl | exact Sb.app0 | apply Sb.keep | apply Sb.keepApp | apply Sb.cons | apply Sb.app))), ?_⟩) (ef_call rfl (XF.mono (xf_clone pb bs.length cb (ints .u8 bs) (by rw [ints_len, Nat.mul_one]) (hb.mono (by intro z hz; simp [hz])) (ints_one _ _) (by omega)) ?_))
    rotate_left
    rintro v L' ⟨q, k, lb, rfl, hO', hk', rfl⟩
    refine xmx_perm (perm_ap lb l M) ?_
    refine ⟨(by first | exact Sb.refl | exact Sb.nil | (repeat (first | exact Sb.nil | exact Sb.refl | exact Sb.app0 | apply Sb.keep | apply Sb.keepApp | apply Sb.cons | apply Sb.app))), ?_⟩
    rotate_right
    refine xm_one 7 (m' := 255) rfl (by kernel_rfl) rfl (by kernel_rfl) (ef_call rfl (XF.mono (xf_clone pb bs.length cb (ints .u8 bs) (by rw [ints_len, Nat.mul_one]) (hb.mono (by intro z hz; simp [hz])) (ints_one _ _) (by omega)) ?_))
    rintro v L' ⟨q, k, lb, rfl, hO', hk', rfl⟩
    refine xmx_perm (perm_ap lb l M) ?_
    refine ⟨(by first | exact Sb.refl | exact Sb.nil | (repeat (first | exact Sb.nil | exact Sb.refl | exact Sb.app0 | apply Sb.keep | apply Sb.keepApp | apply Sb.cons | apply Sb.app))), ?_⟩
    refine xm_take 8 (m' := 511) rfl (by kernel_rfl) (by first | exact Sb.refl | exact Sb.nil | (repeat (first | exact Sb.nil | exact Sb.refl | exact Sb.app0 | apply Sb.keep | apply Sb.keepApp | apply Sb.cons | apply Sb.app))) (rd_cast (v' := .agg (Pk.enc ⟨s, bs, q, k⟩).toArray) (rd_build (T := 129) rfl rfl rfl) (by kernel_rfl)) rfl (by kernel_rfl) ?_
    refine xm_one 9 (m' := 1023) rfl (by kernel_rfl) rfl (by kernel_rfl) (ef_sliceA (vs := Pk.enc ⟨s, bs, q, k⟩) rfl rfl (by rw [Pk.len]; decide) (by rw [Pk.len]; decide) fun r39 => ?_)
    refine ⟨(by first | exact Sb.refl | exact Sb.nil | (repeat (first | exact Sb.nil | exact Sb.refl | exact Sb.app0 | apply Sb.keep | apply Sb.keepApp | apply Sb.cons | apply Sb.app))), ?_⟩
    refine xm_one 10 (m' := 2047) rfl (by kernel_rfl) rfl (by kernel_rfl) (ef_appendQS [_, _, _] (lb ++ M) l (news := Pk.enc ⟨s, bs, q, k⟩) rfl rfl hO rfl (Rs.fresh (List.Mem.head _)) rfl rfl (by decide) (by omega) (by omega) fun p2 c2 l2 hO2 hc2 => ?_)
    refine ⟨(by first | exact Sb.refl | exact Sb.nil | (repeat (first | exact Sb.nil | exact Sb.refl | exact Sb.app0 | apply Sb.keep | apply Sb.keepApp | apply Sb.cons | apply Sb.app))), ?_⟩
    refine xm_take 11 (m' := 4095) rfl (by kernel_rfl) (by first | exact Sb.refl | exact Sb.nil | (repeat (first | exact Sb.nil | exact Sb.refl | exact Sb.app0 | apply Sb.keep | apply Sb.keepApp | apply Sb.cons | apply Sb.app))) (rd_nilCheck rfl) rfl (by kernel_rfl) ?_
    refine xm_take 12 (m' := 8191) rfl (by kernel_rfl) (by first | exact Sb.refl | exact Sb.nil | (repeat (first | exact Sb.nil | exact Sb.refl | exact Sb.app0 | apply Sb.keep | apply Sb.keepApp | apply Sb.cons | apply Sb.app))) (rd_fieldAddr rfl) rfl (by kernel_rfl) ?_
    refine xm_one 13 (m' := 16383) rfl (by kernel_rfl) rfl (by kernel_rfl) (ef_store1 [_, _] _ rfl rfl (by first | rfl | assumption) rfl rfl rfl ?_)
    refine ⟨(by first | exact Sb.refl | exact Sb.nil | (repeat (first | exact Sb.nil | exact Sb.refl | exact Sb.app0 | apply Sb.keep | apply Sb.keepApp | apply Sb.cons | apply Sb.app))), ?_⟩
    refine xm_done (by kernel_rfl) ?_
    refine xq_seq ?_
    refine xc_seq ?_
    refine xc_region ?_
    refine xo_rd (rd_assign rfl) rfl ?_
    refine xo_nil ?_
    refine xq_seq ?_
    refine xc_ret ?_
    rotate_left
    refine xm_take 8 (m' := 495) rfl (by kernel_rfl) (by first | exact Sb.refl | exact Sb.nil | (repeat (first | exact Sb.nil | exact Sb.refl | exact Sb.app0 | apply Sb.keep | apply Sb.keepApp | apply Sb.cons | apply Sb.app))) (rd_cast (v' := .agg (Pk.enc ⟨s, bs, q, k⟩).toArray) (rd_build (T := 129) rfl rfl rfl) (by kernel_rfl)) rfl (by kernel_rfl) ?_
    refine xm_two 4 9 (mi := 511) (mk := 1007) rfl rfl (by kernel_rfl) rfl rfl (by kernel_rfl) (by kernel_rfl) (ef_rd (rd_load1 rfl (Cl.o1 rfl)) ⟨(by first | exact Sb.refl | exact Sb.nil | (repeat (first | exact Sb.nil | exact Sb.refl | exact Sb.app0 | apply Sb.keep | apply Sb.keepApp | apply Sb.cons | apply Sb.app))), ?_⟩) (ef_sliceA (vs := Pk.enc ⟨s, bs, q, k⟩) rfl rfl (by rw [Pk.len]; decide) (by rw [Pk.len]; decide) fun r39 => ⟨(by first | exact Sb.refl | exact Sb.nil | (repeat (first | exact Sb.nil | exact Sb.refl | exact Sb.app0 | apply Sb.keep | apply Sb.keepApp | apply Sb.cons | apply Sb.app))), ?_⟩)
    refine xm_one 9 (m' := 1023) rfl (by kernel_rfl) rfl (by kernel_rfl) (ef_sliceA (vs := Pk.enc ⟨s, bs, q, k⟩) rfl rfl (by rw [Pk.len]; decide) (by rw [Pk.len]; decide) fun r39 => ?_)
    refine ⟨(by first | exact Sb.refl | exact Sb.nil | (repeat (first | exact Sb.nil | exact Sb.refl | exact Sb.app0 | apply Sb.keep | apply Sb.keepApp | apply Sb.cons | apply Sb.app))), ?_⟩
    refine xm_one 10 (m' := 2047) rfl (by kernel_rfl) rfl (by kernel_rfl) (ef_appendQS [_, _, _] (lb ++ M) l (news := Pk.enc ⟨s, bs, q, k⟩) rfl rfl hO rfl (Rs.fresh (List.Mem.head _)) rfl rfl (by decide) (by omega) (by omega) fun p2 c2 l2 hO2 hc2 => ?_)
    refine ⟨(by first | exact Sb.refl | exact Sb.nil | (repeat (first | exact Sb.nil | exact Sb.refl | exact Sb.app0 | apply Sb.keep | apply Sb.keepApp | apply Sb.cons | apply Sb.app))), ?_⟩
    refine xm_take 11 (m' := 4095) rfl (by kernel_rfl) (by first | exact Sb.refl | exact Sb.nil | (repeat (first | exact Sb.nil | exact Sb.refl | exact Sb.app0 | apply Sb.keep | apply Sb.keepApp | apply Sb.cons | apply Sb.app))) (rd_nilCheck rfl) rfl (by kernel_rfl) ?_
    refine xm_take 12 (m' := 8191) rfl (by kernel_rfl) (by first | exact Sb.refl | exact Sb.nil | (repeat (first | exact Sb.nil | exact Sb.refl | exact Sb.app0 | apply Sb.keep | apply Sb.keepApp | apply Sb.cons | apply Sb.app))) (rd_fieldAddr rfl) rfl (by kernel_rfl) ?_
    refine xm_one 13 (m' := 16383) rfl (by kernel_rfl) rfl (by kernel_rfl) (ef_store1 [_, _] _ rfl rfl (by first | rfl | assumption) rfl rfl rfl ?_)
    refine ⟨(by first | exact Sb.refl | exact Sb.nil | (repeat (first | exact Sb.nil | exact Sb.refl | exact Sb.app0 | apply Sb.keep | apply Sb.keepApp | apply Sb.cons | apply Sb.app))), ?_⟩
    refine xm_done (by kernel_rfl) ?_
    refine xq_seq ?_
    refine xc_seq ?_
    refine xc_region ?_
    refine xo_rd (rd_assign rfl) rfl ?_
    refine xo_nil ?_
    refine xq_seq ?_
    refine xc_ret ?_
    rotate_left
    refine xm_one 4 (m' := 1023) rfl (by kernel_rfl) rfl (by kernel_rfl) (ef_rd (rd_load1 rfl (Cl.o2 rfl)) ?_)
    refine ⟨(by first | exact Sb.refl | exact Sb.nil | (repeat (first | exact Sb.nil | exact Sb.refl | exact Sb.app0 | apply Sb.keep | apply Sb.keepApp | apply Sb.cons | apply Sb.app))), ?_⟩
    refine xm_one 10 (m' := 2047) rfl (by kernel_rfl) rfl (by kernel_rfl) (ef_appendQS [_, _, _] (lb ++ M) l (news := Pk.enc ⟨s, bs, q, k⟩) rfl rfl hO rfl (Rs.fresh (List.Mem.head _)) rfl rfl (by decide) (by omega) (by omega) fun p2 c2 l2 hO2 hc2 => ?_)
    refine ⟨(by first | exact Sb.refl | exact Sb.nil | (repeat (first | exact Sb.nil | exact Sb.refl | exact Sb.app0 | apply Sb.keep | apply Sb.keepApp | apply Sb.cons | apply Sb.app))), ?_⟩
    refine xm_take 11 (m' := 4095) rfl (by kernel_rfl) (by first | exact Sb.refl | exact Sb.nil | (repeat (first | exact Sb.nil | exact Sb.refl | exact Sb.app0 | apply Sb.keep | apply Sb.keepApp | apply Sb.cons | apply Sb.app))) (rd_nilCheck rfl) rfl (by kernel_rfl) ?_
    refine xm_take 12 (m' := 8191) rfl (by kernel_rfl) (by first | exact Sb.refl | exact Sb.nil | (repeat (first | exact Sb.nil | exact Sb.refl | exact Sb.app0 | apply Sb.keep | apply Sb.keepApp | apply Sb.cons | apply Sb.app))) (rd_fieldAddr rfl) rfl (by kernel_rfl) ?_
    refine xm_one 13 (m' := 16383) rfl (by kernel_rfl) rfl (by kernel_rfl) (ef_store1 [_, _] _ rfl rfl (by first | rfl | assumption) rfl rfl rfl ?_)
    refine ⟨(by first | exact Sb.refl | exact Sb.nil | (repeat (first | exact Sb.nil | exact Sb.refl | exact Sb.app0 | apply Sb.keep | apply Sb.keepApp | apply Sb.cons | apply Sb.app))), ?_⟩
    refine xm_done (by kernel_rfl) ?_
    refine xq_seq ?_
    refine xc_seq ?_
    refine xc_region ?_
    refine xo_rd (rd_assign rfl) rfl ?_
    refine xo_nil ?_
    refine xq_seq ?_
    refine xc_ret ?_
    rotate_left
  all_goals exact xq_sub (List.sublist_append_right [_, _] _) (xq_ret1 (.inl rfl) Try.results42 rfl ⟨q, k, p2, c2, l2, lb, rfl, hO', by rw [List.flatMap_append, List.flatMap_singleton]; exact hO2, rfl⟩)
end Go.Proofs.Ytpheiklhjelkcaa.X
/-
  Chapter 19: packets that are sent again wait in order, none of a number twice: a walk of my own.
-/
namespace Go.Proofs.Ytpheiklhjelkcaa.X
open Go Go.RowKit
set_option linter.unusedVariables false
set_option linter.unusedSimpArgs false
/-- The state of Again. -/
structure AgS where
  i : Nat
  es : List Pk
  p : Option Addr
  c : Nat
  l : List Blk
  wp : Option Addr
  wc : Nat
  wl : List Blk
  M : List Blk
structure AgS.Ok (W : World) (s : AgS) : Prop where
  q : SlQ 2 129 (.slice s.p s.es.length s.c) s.es.length (s.es.flatMap Pk.enc) s.l
  w : SlQ 1 36 (.slice s.wp s.es.length s.wc) s.es.length (ints .u16 (s.es.map Pk.s)) s.wl
  pk : ∀ e, e ∈ s.es → e.b = [e.s % 256] ∧ Rs W s.M e.p (ints .u8 e.b)
  len : s.es.length ≤ s.i
def agL (b : Int) (r : Nat) (s : AgS) : List Blk := (r, .cells (acl b s.p s.es.length s.c).toArray 127 (0, 0)) :: (s.l ++ (s.wl ++ s.M))
theorem agL_mk (b : Int) (r i : Nat) (es : List Pk) (p : Option Addr) (c : Nat) (l : List Blk) (wp : Option Addr) (wc : Nat) (wl M : List Blk) : agL b r ⟨i, es, p, c, l, wp, wc, wl, M⟩ = (r, .cells (acl b p es.length c).toArray 127 (0, 0)) :: (l ++ (wl ++ M)) := rfl
def firstB : List Pk → List Int
  | [] => []
  | e :: _ => [e.s % 256]
theorem perm_w3 {a b : Blk} (l2 lb R : List Blk) : (b :: (l2 ++ (lb ++ (a :: R)))).Perm (a :: b :: (l2 ++ (lb ++ R))) := (by classical exact List.perm_iff_count.2 fun a => by simp only [List.append_eq, List.count_append, List.count_cons, List.count_nil, List.cons_append, List.nil_append, List.flatMap_append, List.flatMap_cons, List.flatMap_nil, List.append_nil]; omega)
theorem perm_w4 {a : Blk} (l2 lb wl M : List Blk) : ((a :: (l2 ++ lb)) ++ (wl ++ M)).Perm (a :: (l2 ++ (wl ++ (lb ++ M)))) := (by classical exact List.perm_iff_count.2 fun a => by simp only [List.append_eq, List.count_append, List.count_cons, List.count_nil, List.cons_append, List.nil_append, List.flatMap_append, List.flatMap_cons, List.flatMap_nil, List.append_nil]; omega)
/-- What First told. -/
structure FbS where
  q : Option Addr
  k : Nat
  l : List Blk
set_option maxHeartbeats 3200000 in
theorem again1 {W : World} (b : Int) (lp : Option Addr) (n lc : Nat) (xs : List Int) (hx : xs.length = n) (hr : Rs W [] lp (ints .u16 xs)) :
    XF Try.prog W 5 #[.int .i64 b, .slice lp n lc] [] (fun v L' => v = .bool true) := by
  refine xf_enter (args := [_, _]) Try.func5 rfl Try.ntmps5 rfl ?_
  focus
    refine xc_seq ?_
    refine xc_region ?_
    refine xo_rd (rd_assign rfl) rfl ?_
    refine xo_nil ?_
    refine xq_seq ?_
    refine xc_seq ?_
    refine xc_seq ?_
    refine xc_region ?_
    refine xo_rd (rd_move rfl) rfl ?_
    refine xo_rd (rd_len rfl) rfl ?_
    refine xo_rd (rd_gtr rfl rfl) rfl ?_
    refine xo_nil ?_
    refine xq_seq ?_
    refine xc_dec rfl (fun hz1 => ?_) (fun hz1 => ?_)
    refine xc_seq ?_
    refine xc_region ?_
    refine xo_ef rfl (ef_call rfl (XF.mono (xf_works) ?_))
    rintro v L' ⟨rfl, rfl⟩
    refine xo_rd (rd_assign rfl) rfl ?_
    refine xo_nil ?_
    refine xq_seq ?_
    refine xc_ret ?_
    refine xq_then_ret ?_
    rotate_left
    refine xc_skip ?_
    refine xq_seq ?_
    rotate_left
  · exact xq_ret1 (.inl rfl) Try.results5 rfl rfl
  by_cases hb : 1 ≤ b ∧ b ≤ 256
  case neg =>
    focus
      refine xc_seq ?_
      refine xc_region ?_
      refine xo_rd (rd_move rfl) rfl ?_
      refine xo_ef rfl (ef_call rfl (XF.mono (xf_NewA0 b hb) ?_))
      rintro v L' ⟨rfl, rfl⟩
      refine xo_rd (rd_move rfl) rfl ?_
      refine xo_rd (rd_extract rfl rfl) rfl ?_
      refine xo_rd (rd_extract rfl rfl) rfl ?_
      refine xo_rd (rd_assign rfl) rfl ?_
      refine xo_rd (rd_assign rfl) rfl ?_
      refine xo_nil ?_
      refine xq_seq ?_
      refine xc_seq ?_
      refine xc_seq ?_
      refine xc_region ?_
      refine xo_rd (rd_move rfl) rfl ?_
      refine xo_ef rfl (ef_call rfl (XF.mono (xf_Right b) ?_))
      rintro v L' ⟨rfl, rfl⟩
      refine xo_rd (rd_not rfl) rfl ?_
      refine xo_nil ?_
      refine xq_seq ?_
      refine xc_cond rfl (fun hy1 => ?_) (fun hy1 => ?_)
      refine xc_seq ?_
      refine xc_region ?_
      refine xo_rd (rd_move rfl) rfl ?_
      refine xo_rd (rd_eqnil rfl) rfl ?_
      refine xo_rd (rd_move rfl) rfl ?_
      refine xo_grd rfl rfl (rd_move rfl) rfl ?_
      refine xo_grd rfl rfl (rd_eql rfl rfl) rfl ?_
      refine xo_rd (rd_pickt rfl rfl) rfl ?_
      refine xo_rd (rd_move rfl) rfl ?_
      refine xo_gef rfl rfl rfl (ef_call rfl (XF.mono (xf_works) ?_))
      rintro v L' ⟨rfl, rfl⟩
      refine xo_rd (rd_pickt rfl rfl) rfl ?_
      refine xo_rd (rd_assign rfl) rfl ?_
      refine xo_nil ?_
      refine xq_seq ?_
      refine xc_ret ?_
      refine xq_then_ret ?_
      rotate_left
      refine xc_skip ?_
      refine xq_seq ?_
      rotate_left
    · exact xq_ret1 (.inl rfl) Try.results5 rfl rfl
    · exfalso
      apply hb
      simpa using hy1
  focus
    refine xc_seq ?_
    refine xc_region ?_
    refine xo_rd (rd_move rfl) rfl ?_
    refine xo_ef rfl (ef_call rfl (XF.mono (xf_NewA b hb) ?_))
    rintro v L' ⟨r, rfl, rfl⟩
    refine xo_rd (rd_move rfl) rfl ?_
    refine xo_rd (rd_extract rfl rfl) rfl ?_
    refine xo_rd (rd_extract rfl rfl) rfl ?_
    refine xo_rd (rd_assign rfl) rfl ?_
    refine xo_rd (rd_assign rfl) rfl ?_
    refine xo_nil ?_
    refine xq_seq ?_
    refine xc_seq ?_
    refine xc_seq ?_
    refine xc_region ?_
    refine xo_rd (rd_move rfl) rfl ?_
    refine xo_ef rfl (ef_call rfl (XF.mono (xf_Right b) ?_))
    rintro v L' ⟨rfl, rfl⟩
    refine xo_rd (rd_not rfl) rfl ?_
    refine xo_nil ?_
    refine xq_seq ?_
    refine xc_cond rfl (fun hy1 => ?_) (fun hy1 => ?_)
    refine xc_seq ?_
    refine xc_region ?_
    refine xo_rd (rd_move rfl) rfl ?_
    refine xo_rd (rd_eqnil rfl) rfl ?_
    refine xo_rd (rd_move rfl) rfl ?_
    refine xo_gskip rfl rfl rfl rfl ?_
    refine xo_gskip rfl rfl rfl rfl ?_
    refine xo_rd (rd_pickf rfl rfl) rfl ?_
    refine xo_rd (rd_move rfl) rfl ?_
    refine xo_gskip rfl rfl rfl rfl ?_
    refine xo_rd (rd_pickf rfl rfl) rfl ?_
    refine xo_rd (rd_assign rfl) rfl ?_
    refine xo_nil ?_
    refine xq_seq ?_
    refine xc_ret ?_
    refine xq_then_ret ?_
    rotate_left
    refine xc_skip ?_
    refine xq_seq ?_
    rotate_left
  · exfalso
    rw [decide_eq_true hb.1, decide_eq_true hb.2] at hy1
    cases hy1
  focus
    refine xc_seq ?_
    refine xc_region ?_
    refine xo_rd (rd_assign rfl) rfl ?_
    refine xo_nil ?_
    refine xq_seq ?_
    refine xc_seq ?_
    refine xc_seq ?_
    refine xc_region ?_
    refine xo_rd (rd_assign rfl) rfl ?_
    refine xo_nil ?_
    refine xq_seq ?_
    refine xc_block ?_
  refine xc_loopI (ι := AgS) (fun s => s.i ≤ n ∧ s.Ok W) (fun s => n - s.i) (fun s => agL b r s) (fun s => [(0, .int .i64 b), (1, .slice lp n lc), (5, .pointer (some ⟨r, 0, none⟩)), (6, .int .i64 0), (7, .slice s.wp s.es.length s.wc), (8, .int .i64 s.i)]) ⟨0, [], none, 0, [], none, 0, [], []⟩ ⟨Nat.zero_le _, ⟨SlQ.nil, SlQ.nil, (fun e h => by cases h), Nat.le_refl _⟩⟩ rfl (by repeat (first | exact keep_nil | refine keep_cons rfl ?_)) ?_
  rintro ⟨i, es, p1, c1, l, wp, wc, wl, M⟩ ⟨hi, hok⟩
  rw [agL_mk]
  obtain ⟨hq, hw, hpk, hlen⟩ := hok
  dsimp only at hi hq hw hpk hlen ⊢
  have hn40 : n ≤ 40 := by omega
  by_cases hin : i < n
  · obtain ⟨b2, o2, hp2, hcl⟩ := hr.int (i := i) (by omega)
    subst hp2
    generalize xs[i] = x at *
    have hcx : ∀ L', Cl W L' b2 (o2 + (i : Int).toNat * 1) (.int .u16 x) := fun L' => hcl.mono fun z h => by cases h
    focus
      refine xc_seq ?_
      refine xc_seq ?_
      refine xc_region ?_
      refine xo_rd (rd_move rfl) rfl ?_
      refine xo_rd (rd_move rfl) rfl ?_
      refine xo_rd (rd_len rfl) rfl ?_
      refine xo_rd (rd_lss rfl rfl) rfl ?_
      refine xo_nil ?_
      refine xq_seq ?_
      refine xc_dec rfl (fun h1 => ?_) (fun h1 => (by exfalso; omega))
      refine xc_skip ?_
      refine xq_seq ?_
    refine xc_seq (xc_block ?_)
    refine xc_join (ι := FbS) (fun s => SlO 1 5 (.slice s.q (firstB es).length s.k) (firstB es).length (ints .u8 (firstB es)) s.l) (fun s => (r, .cells (acl b p1 es.length c1).toArray 127 (0, 0)) :: (s.l ++ (l ++ (wl ++ M)))) (fun s => [(0, .int .i64 b), (1, .slice (some ⟨b2, o2, none⟩) n lc), (5, .pointer (some ⟨r, 0, none⟩)), (6, .int .i64 0), (7, .slice wp es.length wc), (8, .int .i64 i), (9, .slice s.q (firstB es).length s.k), (10, .bool (decide ((0 : Int) < (es.length : Int))))]) ?_ ?_
    · cases es with
      | nil =>
        focus
          refine xc_region ?_
          refine xo_rd (rd_move rfl) rfl ?_
          refine xo_ef rfl (ef_call rfl (XF.mono (xf_AFirst0 r p1 c1 (Cl.o0 rfl)) ?_))
          rintro v L' ⟨rfl, rfl⟩
          refine xo_rd (rd_move rfl) rfl ?_
          refine xo_rd (rd_extract rfl rfl) rfl ?_
          refine xo_rd (rd_extract rfl rfl) rfl ?_
          refine xo_rd (rd_assign rfl) rfl ?_
          refine xo_rd (rd_assign rfl) rfl ?_
          refine xo_nil ?_
        exact xq_joined (⟨none, 0, []⟩ : FbS) SlO.nil rfl (by repeat (first | exact keep_nil | refine keep_cons rfl ?_))
      | cons e es =>
        obtain ⟨he1, he2⟩ := hpk e (List.mem_cons_self ..)
        have hdt : (decide ((0 : Int) < ((e :: es).length : Int))) = true := decide_eq_true (by show (0 : Int) < ((es.length + 1 : Nat) : Int); omega)
        rw [hdt]
        have hfi := xf_AFirst (W := W) (L := (r, .cells (acl b p1 (e :: es).length c1).toArray 127 (0, 0)) :: (l ++ (wl ++ M))) r p1 c1 e es (Cl.o0 rfl) (hq.rs fun z hz => List.mem_cons_of_mem _ (List.mem_append_left _ hz)) (he2.mono fun z hz => List.mem_cons_of_mem _ (List.mem_append_right _ (List.mem_append_right _ hz))) (by rw [he1, List.length_singleton]; decide)
        rw [he1] at hfi
        focus
          refine xc_region ?_
          refine xo_rd (rd_move rfl) rfl ?_
          refine xo_ef rfl (ef_call rfl (XF.mono (hfi) ?_))
          rintro v L' ⟨q, k, l', rfl, hO, rfl⟩
          refine xo_seg [_] l' _ ?_
          refine xo_rd (rd_move rfl) rfl ?_
          refine xo_rd (rd_extract rfl rfl) rfl ?_
          refine xo_rd (rd_extract rfl rfl) rfl ?_
          refine xo_rd (rd_assign rfl) rfl ?_
          refine xo_rd (rd_assign rfl) rfl ?_
          refine xo_nil ?_
        exact xq_joined (⟨q, k, l'⟩ : FbS) hO rfl (by repeat (first | exact keep_nil | refine keep_cons rfl ?_))
    rintro ⟨qf, kf, lf⟩ hO
    dsimp only at hO ⊢
    refine xc_join (ι := Unit) (fun _ => True) (fun _ => (r, .cells (acl b p1 es.length c1).toArray 127 (0, 0)) :: (lf ++ (l ++ (wl ++ M)))) (fun s => [(0, .int .i64 b), (1, .slice (some ⟨b2, o2, none⟩) n lc), (5, .pointer (some ⟨r, 0, none⟩)), (6, .int .i64 0), (7, .slice wp es.length wc), (8, .int .i64 i), (9, .slice qf (firstB es).length kf), (10, .bool (decide ((0 : Int) < (es.length : Int))))]) ?_ ?_
    · cases es with
      | nil =>
        focus
          refine xc_seq ?_
          refine xc_drawML [0, 0, 2, 4, 9, 16, 32, 96, 128, 384, 640, 1152, 2048, 6144, 10240, 2048, 34816, 67584, 133120, 280576, 526464, 1048736, 2097184] [0, 0, 2, 4, 9, 16, 32, 96, 128, 384, 640, 1152, 2048, 6144, 10240, 2048, 34816, 67584, 133120, 280576, 526464, 1048736, 2097184] (by kernel_rfl) (by kernel_rfl) (by kernel_rfl) ?_
          refine xm_take 0 (m' := 1) rfl (by kernel_rfl) Sb.refl (rd_move rfl) rfl (by kernel_rfl) ?_
          refine xm_take 1 (m' := 3) rfl (by kernel_rfl) Sb.refl (rd_move rfl) rfl (by kernel_rfl) ?_
          refine xm_take 2 (m' := 7) rfl (by kernel_rfl) Sb.refl (rd_len rfl) rfl (by kernel_rfl) ?_
          refine xm_take 3 (m' := 15) rfl (by kernel_rfl) Sb.refl (rd_gtr rfl rfl) rfl (by kernel_rfl) ?_
          refine xm_take 4 (m' := 31) rfl (by kernel_rfl) Sb.refl (rd_neb rfl rfl) rfl (by kernel_rfl) ?_
          refine xm_take 5 (m' := 63) rfl (by kernel_rfl) Sb.refl (rd_move rfl) rfl (by kernel_rfl) ?_
          refine xm_gtake 6 (m' := 127) rfl (by kernel_rfl) Sb.refl rfl rfl (rd_move rfl) rfl (by kernel_rfl) ?_
          refine xm_gtake 7 (m' := 255) rfl (by kernel_rfl) Sb.refl rfl rfl (rd_move rfl) rfl (by kernel_rfl) ?_
          refine xm_gskip 8 (m' := 511) rfl (by kernel_rfl) Sb.refl rfl rfl rfl rfl (by kernel_rfl) ?_
          refine xm_gskip 9 (m' := 1023) rfl (by kernel_rfl) Sb.refl rfl rfl rfl rfl (by kernel_rfl) ?_
          refine xm_gskip 10 (m' := 2047) rfl (by kernel_rfl) Sb.refl rfl rfl rfl rfl (by kernel_rfl) ?_
          refine xm_gskip 11 (m' := 4095) rfl (by kernel_rfl) Sb.refl rfl rfl rfl rfl (by kernel_rfl) ?_
          refine xm_gskipU 12 (m' := 8191) rfl (by kernel_rfl) Sb.refl rfl rfl rfl (by kernel_rfl) ?_
          refine xm_gskipU 13 (m' := 16383) rfl (by kernel_rfl) Sb.refl rfl rfl rfl (by kernel_rfl) ?_
          refine xm_gskipU 14 (m' := 32767) rfl (by kernel_rfl) Sb.refl rfl rfl rfl (by kernel_rfl) ?_
          refine xm_gskipU 15 (m' := 65535) rfl (by kernel_rfl) Sb.refl rfl rfl rfl (by kernel_rfl) ?_
          refine xm_gskipU 16 (m' := 131071) rfl (by kernel_rfl) Sb.refl rfl rfl rfl (by kernel_rfl) ?_
          refine xm_gskipU 17 (m' := 262143) rfl (by kernel_rfl) Sb.refl rfl rfl rfl (by kernel_rfl) ?_
          refine xm_gskipU 18 (m' := 524287) rfl (by kernel_rfl) Sb.refl rfl rfl rfl (by kernel_rfl) ?_
          refine xm_gskipU 19 (m' := 1048575) rfl (by kernel_rfl) Sb.refl rfl rfl rfl (by kernel_rfl) ?_
          refine xm_gskip 20 (m' := 2097151) rfl (by kernel_rfl) Sb.refl rfl rfl rfl rfl (by kernel_rfl) ?_
          refine xm_gtake 21 (m' := 4194303) rfl (by kernel_rfl) Sb.refl rfl rfl (rd_pickf rfl rfl) rfl (by kernel_rfl) ?_
          refine xm_take 22 (m' := 8388607) rfl (by kernel_rfl) Sb.refl (rd_pickf rfl rfl) rfl (by kernel_rfl) ?_
          refine xm_done (by kernel_rfl) ?_
          refine xq_seq ?_
          refine xc_condf rfl ?_
          refine xc_skip ?_
        all_goals exact xq_joined () trivial rfl (by repeat (first | exact keep_nil | refine keep_cons rfl ?_))
      | cons e es =>
        have hdt : (decide ((0 : Int) < ((e :: es).length : Int))) = true := decide_eq_true (by show (0 : Int) < ((es.length + 1 : Nat) : Int); omega)
        rw [hdt]
        have hRf : Rs W ((r, .cells (acl b p1 (e :: es).length c1).toArray 127 (0, 0)) :: (lf ++ (l ++ (wl ++ M)))) qf (ints .u8 [e.s % 256]) := hO.rs (by intro z hz; simp [hz])
        have hRw : Rs W ((r, .cells (acl b p1 (e :: es).length c1).toArray 127 (0, 0)) :: (lf ++ (l ++ (wl ++ M)))) wp (ints .u16 (e.s :: es.map Pk.s)) := hw.rs (by intro z hz; simp [hz])
        obtain ⟨bf, of, hqf, hcf⟩ := hRf.int (i := 0) (Nat.succ_pos _)
        obtain ⟨bw, ow, hqw, hcw⟩ := hRw.int (i := 0) (Nat.succ_pos _)
        subst hqf hqw
        have hcf' : Cl W ((r, .cells (acl b p1 (e :: es).length c1).toArray 127 (0, 0)) :: (lf ++ (l ++ (wl ++ M)))) bf (of + (0 : Int).toNat * 1) (.int .u8 (e.s % 256)) := hcf
        have hcw' : Cl W ((r, .cells (acl b p1 (e :: es).length c1).toArray 127 (0, 0)) :: (lf ++ (l ++ (wl ++ M)))) bw (ow + (0 : Int).toNat * 1) (.int .u16 e.s) := hcw
        show XC _ _ _ _ _ ((r, .cells (acl b p1 (es.length + 1) c1).toArray 127 (0, 0)) :: (lf ++ (l ++ (wl ++ M)))) [(0, .int .i64 b), (1, .slice (some ⟨b2, o2, none⟩) n lc), (5, .pointer (some ⟨r, 0, none⟩)), (6, .int .i64 0), (7, .slice (some ⟨bw, ow, none⟩) (es.length + 1) wc), (8, .int .i64 i), (9, .slice (some ⟨bf, of, none⟩) 1 kf), (10, .bool true)]
        focus
          refine xc_seq ?_
          refine xc_drawML [0, 0, 2, 4, 9, 16, 32, 96, 128, 384, 640, 1152, 2048, 6144, 10240, 2048, 34816, 67584, 133120, 280576, 526464, 1048736, 2097184] [0, 0, 2, 4, 9, 16, 32, 96, 128, 384, 640, 1152, 2048, 6144, 10240, 2048, 34816, 67584, 133120, 280576, 526464, 1048736, 2097184] (by kernel_rfl) (by kernel_rfl) (by kernel_rfl) ?_
          refine xm_take 0 (m' := 1) rfl (by kernel_rfl) Sb.refl (rd_move rfl) rfl (by kernel_rfl) ?_
          refine xm_take 1 (m' := 3) rfl (by kernel_rfl) Sb.refl (rd_move rfl) rfl (by kernel_rfl) ?_
          refine xm_take 2 (m' := 7) rfl (by kernel_rfl) Sb.refl (rd_len rfl) rfl (by kernel_rfl) ?_
          refine xm_take 3 (m' := 15) rfl (by kernel_rfl) Sb.refl (rd_cast (v' := .bool true) (rd_gtr rfl rfl) (congrArg Value.bool (decide_eq_true (by show (0 : Int) < ((es.length + 1 : Nat) : Int); omega)))) rfl (by kernel_rfl) ?_
          refine xm_take 4 (m' := 31) rfl (by kernel_rfl) Sb.refl (rd_cast (v' := .bool false) (rd_neb rfl rfl) (congrArg Value.bool (by first | rfl | exact bnot_self _))) rfl (by kernel_rfl) ?_
          refine xm_take 5 (m' := 63) rfl (by kernel_rfl) Sb.refl (rd_move rfl) rfl (by kernel_rfl) ?_
          refine xm_gtake 6 (m' := 127) rfl (by kernel_rfl) Sb.refl rfl rfl (rd_move rfl) rfl (by kernel_rfl) ?_
          refine xm_gtake 7 (m' := 255) rfl (by kernel_rfl) Sb.refl rfl rfl (rd_move rfl) rfl (by kernel_rfl) ?_
          refine xm_gtake 8 (m' := 511) rfl (by kernel_rfl) Sb.refl rfl rfl (rd_move rfl) rfl (by kernel_rfl) ?_
          refine xm_gtake 9 (m' := 1023) rfl (by kernel_rfl) Sb.refl rfl rfl (rd_len rfl) rfl (by kernel_rfl) ?_
          refine xm_gtake 10 (m' := 2047) rfl (by kernel_rfl) Sb.refl rfl rfl (rd_neq rfl rfl) rfl (by kernel_rfl) ?_
          refine xm_gtake 11 (m' := 4095) rfl (by kernel_rfl) Sb.refl rfl rfl (rd_move rfl) rfl (by kernel_rfl) ?_
          refine xm_gtake 12 (m' := 8191) rfl (by kernel_rfl) Sb.refl rfl rfl (rd_move rfl) rfl (by kernel_rfl) ?_
          refine xm_gtake 13 (m' := 16383) rfl (by kernel_rfl) Sb.refl rfl rfl (rd_indexAddr rfl rfl (by omega) (by omega)) rfl (by kernel_rfl) ?_
          refine xm_gtake 14 (m' := 32767) rfl (by kernel_rfl) Sb.refl rfl rfl (rd_load1 rfl hcf') rfl (by kernel_rfl) ?_
          refine xm_gtake 15 (m' := 65535) rfl (by kernel_rfl) Sb.refl rfl rfl (rd_move rfl) rfl (by kernel_rfl) ?_
          refine xm_gtake 16 (m' := 131071) rfl (by kernel_rfl) Sb.refl rfl rfl (rd_indexAddr rfl rfl (by omega) (by omega)) rfl (by kernel_rfl) ?_
          refine xm_gtake 17 (m' := 262143) rfl (by kernel_rfl) Sb.refl rfl rfl (rd_load1 rfl hcw') rfl (by kernel_rfl) ?_
          refine xm_gtake 18 (m' := 524287) rfl (by kernel_rfl) Sb.refl rfl rfl (rd_cast (v' := .int .u8 (e.s % 256)) (rd_conv rfl) rfl) rfl (by kernel_rfl) ?_
          refine xm_gtake 19 (m' := 1048575) rfl (by kernel_rfl) Sb.refl rfl rfl (rd_neq rfl rfl) rfl (by kernel_rfl) ?_
          refine xm_gtake 20 (m' := 2097151) rfl (by kernel_rfl) Sb.refl rfl rfl (rd_pickf rfl rfl) rfl (by kernel_rfl) ?_
          refine xm_gtake 21 (m' := 4194303) rfl (by kernel_rfl) Sb.refl rfl rfl (rd_pickt rfl rfl) rfl (by kernel_rfl) ?_
          refine xm_take 22 (m' := 8388607) rfl (by kernel_rfl) Sb.refl (rd_pickf rfl rfl) rfl (by kernel_rfl) ?_
          refine xm_done (by kernel_rfl) ?_
          refine xq_seq ?_
          refine xc_ndec rfl (fun h => absurd rfl h) (fun _ => ?_)
          refine xc_skip ?_
        exact xq_joined () trivial rfl (by repeat (first | exact keep_nil | refine keep_cons rfl ?_))
    rintro ⟨⟩ _
    focus
      refine xc_seq ?_
      refine xc_region ?_
      refine xo_rd (rd_move rfl) rfl ?_
      refine xo_ef rfl (ef_call rfl (XF.mono ((xf_spoil _ _ _ lf hO (by cases es <;> simp [firstB])).perm (seg_perm [_] lf (l ++ (wl ++ M)))) ?_))
      rintro v L' ⟨rfl, xs', l', hO', rfl⟩
      refine xo_sub (List.sublist_append_right l' _) ?_
      refine xo_nil ?_
      refine xq_seq ?_
    refine xc_join (ι := AgS) (fun s => s.i = i + 1 ∧ s.Ok W) (fun s => agL b r s) (fun s => [(0, .int .i64 b), (1, .slice (some ⟨b2, o2, none⟩) n lc), (5, .pointer (some ⟨r, 0, none⟩)), (6, .int .i64 0), (7, .slice s.wp s.es.length s.wc), (8, .int .i64 i)]) ?_ ?_
    · by_cases h9 : x.tmod 10 = 9
      · cases es with
        | nil =>
          rw [show (decide ((0 : Int) < (([] : List Pk).length : Int))) = false from rfl]
          focus
            refine xc_seq ?_
            refine xc_region ?_
            refine xo_rd (rd_move rfl) rfl ?_
            refine xo_rd (rd_move rfl) rfl ?_
            refine xo_rd (rd_indexAddr rfl rfl (by omega) (by omega)) rfl ?_
            refine xo_rd (rd_load1 rfl (hcx _)) rfl ?_
            refine xo_rd (rd_rem rfl rfl (by decide)) rfl ?_
            refine xo_rd (rd_eql rfl rfl) rfl ?_
            refine xo_nil ?_
            refine xq_seq ?_
            refine xc_dec rfl (fun hz1 => ?_) (fun hz1 => (by exfalso; omega))
            refine xc_seq ?_
            refine xc_region ?_
            refine xo_rd (rd_move rfl) rfl ?_
            refine xo_ef rfl (ef_call rfl (XF.mono (xf_AShift0 r p1 c1 (Cl.o0 rfl)) ?_))
            rintro v L' ⟨rfl, rfl⟩
            refine xo_rd (rd_move rfl) rfl ?_
            refine xo_rd (rd_extract rfl rfl) rfl ?_
            refine xo_rd (rd_extract rfl rfl) rfl ?_
            refine xo_rd (rd_assign rfl) rfl ?_
            refine xo_rd (rd_assign rfl) rfl ?_
            refine xo_nil ?_
            refine xq_seq ?_
            refine xc_seq ?_
            refine xc_seq ?_
            refine xc_drawML [0, 0, 3, 4, 8, 24, 32, 96, 160, 288, 512, 1536, 2560, 512, 8704, 16896, 33280, 70144, 131616, 262184, 524296] [0, 0, 3, 4, 8, 24, 32, 96, 160, 288, 512, 1536, 2560, 512, 8704, 16896, 33280, 70144, 131616, 262184, 524296] (by kernel_rfl) (by kernel_rfl) (by kernel_rfl) ?_
            refine xm_take 0 (m' := 1) rfl (by kernel_rfl) Sb.refl (rd_move rfl) rfl (by kernel_rfl) ?_
            refine xm_take 1 (m' := 3) rfl (by kernel_rfl) Sb.refl (rd_move rfl) rfl (by kernel_rfl) ?_
            refine xm_take 2 (m' := 7) rfl (by kernel_rfl) Sb.refl (rd_cast (v' := .bool false) (rd_neb rfl rfl) (congrArg Value.bool (by first | rfl | exact bnot_self _))) rfl (by kernel_rfl) ?_
            refine xm_take 3 (m' := 15) rfl (by kernel_rfl) Sb.refl (rd_move rfl) rfl (by kernel_rfl) ?_
            refine xm_gtake 4 (m' := 31) rfl (by kernel_rfl) Sb.refl rfl rfl (rd_move rfl) rfl (by kernel_rfl) ?_
            refine xm_gtake 5 (m' := 63) rfl (by kernel_rfl) Sb.refl rfl rfl (rd_move rfl) rfl (by kernel_rfl) ?_
            refine xm_gskip 6 (m' := 127) rfl (by kernel_rfl) Sb.refl rfl rfl rfl rfl (by kernel_rfl) ?_
            refine xm_gskip 7 (m' := 255) rfl (by kernel_rfl) Sb.refl rfl rfl rfl rfl (by kernel_rfl) ?_
            refine xm_gskip 8 (m' := 511) rfl (by kernel_rfl) Sb.refl rfl rfl rfl rfl (by kernel_rfl) ?_
            refine xm_gskip 9 (m' := 1023) rfl (by kernel_rfl) Sb.refl rfl rfl rfl rfl (by kernel_rfl) ?_
            refine xm_gskipU 10 (m' := 2047) rfl (by kernel_rfl) Sb.refl rfl rfl rfl (by kernel_rfl) ?_
            refine xm_gskipU 11 (m' := 4095) rfl (by kernel_rfl) Sb.refl rfl rfl rfl (by kernel_rfl) ?_
            refine xm_gskipU 12 (m' := 8191) rfl (by kernel_rfl) Sb.refl rfl rfl rfl (by kernel_rfl) ?_
            refine xm_gskipU 13 (m' := 16383) rfl (by kernel_rfl) Sb.refl rfl rfl rfl (by kernel_rfl) ?_
            refine xm_gskipU 14 (m' := 32767) rfl (by kernel_rfl) Sb.refl rfl rfl rfl (by kernel_rfl) ?_
            refine xm_gskipU 15 (m' := 65535) rfl (by kernel_rfl) Sb.refl rfl rfl rfl (by kernel_rfl) ?_
            refine xm_gskipU 16 (m' := 131071) rfl (by kernel_rfl) Sb.refl rfl rfl rfl (by kernel_rfl) ?_
            refine xm_gskipU 17 (m' := 262143) rfl (by kernel_rfl) Sb.refl rfl rfl rfl (by kernel_rfl) ?_
            refine xm_gskip 18 (m' := 524287) rfl (by kernel_rfl) Sb.refl rfl rfl rfl rfl (by kernel_rfl) ?_
            refine xm_gtake 19 (m' := 1048575) rfl (by kernel_rfl) Sb.refl rfl rfl (rd_pickf rfl rfl) rfl (by kernel_rfl) ?_
            refine xm_take 20 (m' := 2097151) rfl (by kernel_rfl) Sb.refl (rd_pickf rfl rfl) rfl (by kernel_rfl) ?_
            refine xm_done (by kernel_rfl) ?_
            refine xq_seq ?_
            refine xc_condf rfl ?_
            refine xc_skip ?_
            refine xq_seq ?_
            refine xc_seq ?_
            refine xc_region ?_
            refine xo_rd (rd_move rfl) rfl ?_
            refine xo_nil ?_
            refine xq_seq ?_
            refine xc_condf rfl ?_
            refine xc_skip ?_
          all_goals exact xq_joined (⟨i + 1, [], p1, c1, l, wp, wc, wl, M⟩ : AgS) ⟨rfl, ⟨hq, hw, hpk, Nat.zero_le _⟩⟩ rfl (by repeat (first | exact keep_nil | refine keep_cons rfl ?_))
        | cons e es =>
          obtain ⟨he1, he2⟩ := hpk e (List.mem_cons_self ..)
          have hdt : (decide ((0 : Int) < ((e :: es).length : Int))) = true := decide_eq_true (by show (0 : Int) < ((es.length + 1 : Nat) : Int); omega)
          rw [hdt]
          have hsh := xf_AShift (W := W) (M := wl ++ M) r b p1 c1 e es l hq (he2.mono fun z hz => List.mem_append_right _ hz) (by rw [he1, List.length_singleton]; decide)
          rw [he1] at hsh
          focus
            refine xc_seq ?_
            refine xc_region ?_
            refine xo_rd (rd_move rfl) rfl ?_
            refine xo_rd (rd_move rfl) rfl ?_
            refine xo_rd (rd_indexAddr rfl rfl (by omega) (by omega)) rfl ?_
            refine xo_rd (rd_load1 rfl (hcx _)) rfl ?_
            refine xo_rd (rd_rem rfl rfl (by decide)) rfl ?_
            refine xo_rd (rd_eql rfl rfl) rfl ?_
            refine xo_nil ?_
            refine xq_seq ?_
            refine xc_dec rfl (fun hz1 => ?_) (fun hz1 => (by exfalso; omega))
            refine xc_seq ?_
            refine xc_region ?_
            refine xo_rd (rd_move rfl) rfl ?_
            refine xo_ef rfl (ef_call rfl (XF.mono (hsh) ?_))
            rintro v L' ⟨q, k, l', p2, c2, rfl, hO', hq2, rfl⟩
            refine xo_rd (rd_move rfl) rfl ?_
            refine xo_rd (rd_extract rfl rfl) rfl ?_
            refine xo_rd (rd_extract rfl rfl) rfl ?_
            refine xo_rd (rd_assign rfl) rfl ?_
            refine xo_rd (rd_assign rfl) rfl ?_
            refine xo_nil ?_
            refine xq_seq ?_
          have hRf : Rs W ((r, .cells (acl b p2 es.length c2).toArray 127 (0, 0)) :: (l' ++ (l ++ (wl ++ M)))) q (ints .u8 [e.s % 256]) := hO'.rs (by intro z hz; simp [hz])
          have hRw : Rs W ((r, .cells (acl b p2 es.length c2).toArray 127 (0, 0)) :: (l' ++ (l ++ (wl ++ M)))) wp (ints .u16 (e.s :: es.map Pk.s)) := hw.rs (by intro z hz; simp [hz])
          obtain ⟨bf, of, hqf, hcf⟩ := hRf.int (i := 0) (Nat.succ_pos _)
          obtain ⟨bw, ow, hqw, hcw⟩ := hRw.int (i := 0) (Nat.succ_pos _)
          subst hqf hqw
          have hcf' : Cl W ((r, .cells (acl b p2 es.length c2).toArray 127 (0, 0)) :: (l' ++ (l ++ (wl ++ M)))) bf (of + (0 : Int).toNat * 1) (.int .u8 (e.s % 256)) := hcf
          have hcw' : Cl W ((r, .cells (acl b p2 es.length c2).toArray 127 (0, 0)) :: (l' ++ (l ++ (wl ++ M)))) bw (ow + (0 : Int).toNat * 1) (.int .u16 e.s) := hcw
          refine xc_keep (E' := [(0, .int .i64 b), (1, .slice (some ⟨b2, o2, none⟩) n lc), (5, .pointer (some ⟨r, 0, none⟩)), (6, .int .i64 0), (7, .slice (some ⟨bw, ow, none⟩) (es.length + 1) wc), (8, .int .i64 i), (10, .bool true), (11, .slice (some ⟨bf, of, none⟩) 1 k), (12, .bool true)]) ?_ (by repeat (first | exact keep_nil | refine keep_cons rfl ?_))
          focus
            refine xc_seq ?_
            refine xc_seq ?_
            refine xc_drawML [0, 0, 3, 4, 8, 24, 32, 96, 160, 288, 512, 1536, 2560, 512, 8704, 16896, 33280, 70144, 131616, 262184, 524296] [0, 0, 3, 4, 8, 24, 32, 96, 160, 288, 512, 1536, 2560, 512, 8704, 16896, 33280, 70144, 131616, 262184, 524296] (by kernel_rfl) (by kernel_rfl) (by kernel_rfl) ?_
            refine xm_take 0 (m' := 1) rfl (by kernel_rfl) Sb.refl (rd_move rfl) rfl (by kernel_rfl) ?_
            refine xm_take 1 (m' := 3) rfl (by kernel_rfl) Sb.refl (rd_move rfl) rfl (by kernel_rfl) ?_
            refine xm_take 2 (m' := 7) rfl (by kernel_rfl) Sb.refl (rd_cast (v' := .bool false) (rd_neb rfl rfl) (congrArg Value.bool (by first | rfl | exact bnot_self _))) rfl (by kernel_rfl) ?_
            refine xm_take 3 (m' := 15) rfl (by kernel_rfl) Sb.refl (rd_move rfl) rfl (by kernel_rfl) ?_
            refine xm_gtake 4 (m' := 31) rfl (by kernel_rfl) Sb.refl rfl rfl (rd_move rfl) rfl (by kernel_rfl) ?_
            refine xm_gtake 5 (m' := 63) rfl (by kernel_rfl) Sb.refl rfl rfl (rd_move rfl) rfl (by kernel_rfl) ?_
            refine xm_gtake 6 (m' := 127) rfl (by kernel_rfl) Sb.refl rfl rfl (rd_move rfl) rfl (by kernel_rfl) ?_
            refine xm_gtake 7 (m' := 255) rfl (by kernel_rfl) Sb.refl rfl rfl (rd_len rfl) rfl (by kernel_rfl) ?_
            refine xm_gtake 8 (m' := 511) rfl (by kernel_rfl) Sb.refl rfl rfl (rd_neq rfl rfl) rfl (by kernel_rfl) ?_
            refine xm_gtake 9 (m' := 1023) rfl (by kernel_rfl) Sb.refl rfl rfl (rd_move rfl) rfl (by kernel_rfl) ?_
            refine xm_gtake 10 (m' := 2047) rfl (by kernel_rfl) Sb.refl rfl rfl (rd_move rfl) rfl (by kernel_rfl) ?_
            refine xm_gtake 11 (m' := 4095) rfl (by kernel_rfl) Sb.refl rfl rfl (rd_indexAddr rfl rfl (by omega) (by omega)) rfl (by kernel_rfl) ?_
            refine xm_gtake 12 (m' := 8191) rfl (by kernel_rfl) Sb.refl rfl rfl (rd_load1 rfl hcf') rfl (by kernel_rfl) ?_
            refine xm_gtake 13 (m' := 16383) rfl (by kernel_rfl) Sb.refl rfl rfl (rd_move rfl) rfl (by kernel_rfl) ?_
            refine xm_gtake 14 (m' := 32767) rfl (by kernel_rfl) Sb.refl rfl rfl (rd_indexAddr rfl rfl (by omega) (by omega)) rfl (by kernel_rfl) ?_
            refine xm_gtake 15 (m' := 65535) rfl (by kernel_rfl) Sb.refl rfl rfl (rd_load1 rfl hcw') rfl (by kernel_rfl) ?_
            refine xm_gtake 16 (m' := 131071) rfl (by kernel_rfl) Sb.refl rfl rfl (rd_cast (v' := .int .u8 (e.s % 256)) (rd_conv rfl) rfl) rfl (by kernel_rfl) ?_
            refine xm_gtake 17 (m' := 262143) rfl (by kernel_rfl) Sb.refl rfl rfl (rd_neq rfl rfl) rfl (by kernel_rfl) ?_
            refine xm_gtake 18 (m' := 524287) rfl (by kernel_rfl) Sb.refl rfl rfl (rd_pickf rfl rfl) rfl (by kernel_rfl) ?_
            refine xm_gtake 19 (m' := 1048575) rfl (by kernel_rfl) Sb.refl rfl rfl (rd_pickt rfl rfl) rfl (by kernel_rfl) ?_
            refine xm_take 20 (m' := 2097151) rfl (by kernel_rfl) Sb.refl (rd_pickf rfl rfl) rfl (by kernel_rfl) ?_
            refine xm_done (by kernel_rfl) ?_
            refine xq_seq ?_
            refine xc_ndec rfl (fun h => absurd rfl h) (fun _ => ?_)
            refine xc_skip ?_
            refine xq_seq ?_
            refine xc_seq ?_
            refine xc_region ?_
            refine xo_rd (rd_move rfl) rfl ?_
            refine xo_nil ?_
            refine xq_seq ?_
            refine xc_condt rfl ?_
            refine xc_region ?_
            refine xo_rd (rd_move rfl) rfl ?_
            refine xo_rd (rd_cast (v' := .slice (slp (some ⟨bw, ow, none⟩) wc 1 1) es.length (wc - 1)) (rd_slLo rfl rfl (by decide) (by show (1 : Int) ≤ ((es.length + 1 : Nat) : Int); omega)) rfl) rfl ?_
            refine xo_rd (rd_assign rfl) rfl ?_
            refine xo_nil ?_
          have hw2 := hw.cut 1 (Nat.succ_pos _)
          exact xq_sub (List.Sublist.cons_cons _ (List.sublist_append_right l' _)) (xq_joined (⟨i + 1, es, p2, c2, l, slp (some ⟨bw, ow, none⟩) wc 1 1, wc - 1, wl, M⟩ : AgS) ⟨rfl, ⟨hq2, hw2, fun e he => hpk e (List.mem_cons_of_mem _ he), by dsimp only at hlen ⊢; rw [List.length_cons] at hlen; omega⟩⟩ rfl (by repeat (first | exact keep_nil | refine keep_cons rfl ?_)))
      · obtain ⟨may, hmay⟩ : ∃ m, (decide ((es.length : Int) < b) && !hasS es x) = m := ⟨_, rfl⟩
        focus
          refine xc_seq ?_
          refine xc_region ?_
          refine xo_rd (rd_move rfl) rfl ?_
          refine xo_rd (rd_move rfl) rfl ?_
          refine xo_rd (rd_indexAddr rfl rfl (by omega) (by omega)) rfl ?_
          refine xo_rd (rd_load1 rfl (hcx _)) rfl ?_
          refine xo_rd (rd_rem rfl rfl (by decide)) rfl ?_
          refine xo_rd (rd_eql rfl rfl) rfl ?_
          refine xo_nil ?_
          refine xq_seq ?_
          refine xc_dec rfl (fun hz1 => (by exfalso; omega)) (fun hz1 => ?_)
          refine xc_seq ?_
          refine xc_region ?_
          refine xo_rd (rd_move rfl) rfl ?_
          refine xo_rd (rd_len rfl) rfl ?_
          refine xo_rd (rd_move rfl) rfl ?_
          refine xo_rd (rd_lss rfl rfl) rfl ?_
          refine xo_rd (rd_assign rfl) rfl ?_
          refine xo_nil ?_
          refine xq_seq ?_
          refine xc_seq ?_
          refine xc_seq ?_
          refine xc_region ?_
          refine xo_rd (rd_assign rfl) rfl ?_
          refine xo_nil ?_
          refine xq_seq ?_
          refine xc_block ?_
        refine xc_loopK (ι := Nat) (fun k => k ≤ es.length) (fun k => es.length - k) (fun k => [(0, .int .i64 b), (1, .slice (some ⟨b2, o2, none⟩) n lc), (5, .pointer (some ⟨r, 0, none⟩)), (6, .int .i64 0), (7, .slice wp es.length wc), (8, .int .i64 i), (13, .bool (!((es.take k).any fun e => decide (e.s = x)) && decide ((es.length : Int) < b))), (14, .int .i64 k)]) 0 (Nat.zero_le _) (by repeat (first | exact keep_nil | refine keep_cons rfl ?_)) ?_
        intro k hk
        by_cases hkn : k < es.length
        · have hRw : Rs W ((r, .cells (acl b p1 es.length c1).toArray 127 (0, 0)) :: (l ++ (wl ++ M))) wp (ints .u16 (es.map Pk.s)) := hw.rs (by intro z hz; simp [hz])
          obtain ⟨bw, ow, hqw, hcw⟩ := hRw.int (i := k) (by rw [List.length_map]; exact hkn)
          subst hqw
          rw [List.getElem_map] at hcw
          have hcw' : Cl W ((r, .cells (acl b p1 es.length c1).toArray 127 (0, 0)) :: (l ++ (wl ++ M))) bw (ow + (k : Int).toNat * 1) (.int .u16 es[k].s) := hcw
          have ht : ((es.take (k + 1)).any fun e => decide (e.s = x)) = (((es.take k).any fun e => decide (e.s = x)) || decide (es[k].s = x)) := by
            rw [List.take_add_one, List.getElem?_eq_getElem hkn, List.any_append]
            simp
          generalize es[k].s = y at *
          generalize hA : ((es.take k).any fun e => decide (e.s = x)) = A at *
          focus
            refine xc_seq ?_
            refine xc_seq ?_
            refine xc_region ?_
            refine xo_rd (rd_move rfl) rfl ?_
            refine xo_rd (rd_move rfl) rfl ?_
            refine xo_rd (rd_len rfl) rfl ?_
            refine xo_rd (rd_lss rfl rfl) rfl ?_
            refine xo_nil ?_
            refine xq_seq ?_
            refine xc_dec rfl (fun hy1 => ?_) (fun hy1 => (by exfalso; omega))
            refine xc_skip ?_
            refine xq_seq ?_
            refine xc_seq ?_
            refine xc_block ?_
            refine xc_drawML [0, 1, 2, 2, 14, 18, 2, 2, 194, 258, 546, 1026, 4095] [0, 1, 2, 2, 14, 18, 2, 2, 194, 258, 546, 1026, 4095] (by kernel_rfl) (by kernel_rfl) (by kernel_rfl) ?_
            refine xm_take 0 (m' := 1) rfl (by kernel_rfl) Sb.refl (rd_move rfl) rfl (by kernel_rfl) ?_
            refine xm_take 1 (m' := 3) rfl (by kernel_rfl) Sb.refl (rd_move rfl) rfl (by kernel_rfl) ?_
            refine xm_split 119 rfl (fun hy2 => ?_) (fun hy2 => ?_)
            refine xm_gtake 2 (m' := 7) rfl (by kernel_rfl) Sb.refl rfl rfl (rd_move rfl) rfl (by kernel_rfl) ?_
            refine xm_gtake 3 (m' := 15) rfl (by kernel_rfl) Sb.refl rfl rfl (rd_move rfl) rfl (by kernel_rfl) ?_
            refine xm_gtake 4 (m' := 31) rfl (by kernel_rfl) Sb.refl rfl rfl (rd_indexAddr rfl rfl (by omega) (by omega)) rfl (by kernel_rfl) ?_
            refine xm_gtake 5 (m' := 63) rfl (by kernel_rfl) Sb.refl rfl rfl (rd_load1 rfl hcw') rfl (by kernel_rfl) ?_
            refine xm_gtake 6 (m' := 127) rfl (by kernel_rfl) Sb.refl rfl rfl (rd_move rfl) rfl (by kernel_rfl) ?_
            refine xm_gtake 7 (m' := 255) rfl (by kernel_rfl) Sb.refl rfl rfl (rd_move rfl) rfl (by kernel_rfl) ?_
            refine xm_gtake 8 (m' := 511) rfl (by kernel_rfl) Sb.refl rfl rfl (rd_indexAddr rfl rfl (by omega) (by omega)) rfl (by kernel_rfl) ?_
            refine xm_gtake 9 (m' := 1023) rfl (by kernel_rfl) Sb.refl rfl rfl (rd_load1 rfl (hcx _)) rfl (by kernel_rfl) ?_
            refine xm_gtake 10 (m' := 2047) rfl (by kernel_rfl) Sb.refl rfl rfl (rd_neq rfl rfl) rfl (by kernel_rfl) ?_
            refine xm_take 11 (m' := 4095) rfl (by kernel_rfl) Sb.refl (rd_pickt rfl rfl) rfl (by kernel_rfl) ?_
            refine xm_take 12 (m' := 8191) rfl (by kernel_rfl) Sb.refl (rd_assign rfl) rfl (by kernel_rfl) ?_
            refine xm_done (by kernel_rfl) ?_
            refine xq_block ?_
            refine xq_seq ?_
            refine xc_region ?_
            refine xo_rd (rd_move rfl) rfl ?_
            refine xo_rd (rd_addn rfl rfl (by omega) (by omega)) rfl ?_
            refine xo_rd (rd_assign rfl) rfl ?_
            refine xo_nil ?_
            rotate_left
            refine xm_gskip 2 (m' := 7) rfl (by kernel_rfl) Sb.refl rfl rfl rfl rfl (by kernel_rfl) ?_
            refine xm_gskip 3 (m' := 15) rfl (by kernel_rfl) Sb.refl rfl rfl rfl rfl (by kernel_rfl) ?_
            refine xm_gskip 4 (m' := 31) rfl (by kernel_rfl) Sb.refl rfl rfl rfl rfl (by kernel_rfl) ?_
            refine xm_gskip 5 (m' := 63) rfl (by kernel_rfl) Sb.refl rfl rfl rfl rfl (by kernel_rfl) ?_
            refine xm_gskip 6 (m' := 127) rfl (by kernel_rfl) Sb.refl rfl rfl rfl rfl (by kernel_rfl) ?_
            refine xm_gskip 7 (m' := 255) rfl (by kernel_rfl) Sb.refl rfl rfl rfl rfl (by kernel_rfl) ?_
            refine xm_gskip 8 (m' := 511) rfl (by kernel_rfl) Sb.refl rfl rfl rfl rfl (by kernel_rfl) ?_
            refine xm_gskip 9 (m' := 1023) rfl (by kernel_rfl) Sb.refl rfl rfl rfl rfl (by kernel_rfl) ?_
            refine xm_gskip 10 (m' := 2047) rfl (by kernel_rfl) Sb.refl rfl rfl rfl rfl (by kernel_rfl) ?_
            refine xm_take 11 (m' := 4095) rfl (by kernel_rfl) Sb.refl (rd_pickf rfl rfl) rfl (by kernel_rfl) ?_
            refine xm_take 12 (m' := 8191) rfl (by kernel_rfl) Sb.refl (rd_assign rfl) rfl (by kernel_rfl) ?_
            refine xm_done (by kernel_rfl) ?_
            refine xq_block ?_
            refine xq_seq ?_
            refine xc_region ?_
            refine xo_rd (rd_move rfl) rfl ?_
            refine xo_rd (rd_addn rfl rfl (by omega) (by omega)) rfl ?_
            refine xo_rd (rd_assign rfl) rfl ?_
            refine xo_nil ?_
            rotate_left
          · refine xq_roundK rfl (k + 1) (by omega) (by omega) (List.Sublist.refl _) (by
              have h2 := (Bool.and_eq_true _ _ ▸ hy2)
              have hA0 : A = false := by simpa using h2.1
              rw [ht, hA0, h2.2, Bool.false_or, Bool.and_true]
              exact (by repeat (first | exact keep_nil | refine keep_cons rfl ?_)))
          · refine xq_roundK rfl (k + 1) (by omega) (by omega) (List.Sublist.refl _) (by
              have hF : (!(A || decide (y = x)) && decide ((es.length : Int) < b)) = false := by
                revert hy2
                cases A <;> cases decide ((es.length : Int) < b) <;> simp
              rw [ht, hF]
              exact (by repeat (first | exact keep_nil | refine keep_cons rfl ?_)))
        · skip
          rw [List.take_of_length_le (by omega)]
          have hmay2 : (!(es.any fun e => decide (e.s = x)) && decide ((es.length : Int) < b)) = may := by
            rw [← hmay, Bool.and_comm]; rfl
          rw [hmay2]
          focus
            refine xc_seq ?_
            refine xc_seq ?_
            refine xc_region ?_
            refine xo_rd (rd_move rfl) rfl ?_
            refine xo_rd (rd_move rfl) rfl ?_
            refine xo_rd (rd_len rfl) rfl ?_
            refine xo_rd (rd_lss rfl rfl) rfl ?_
            refine xo_nil ?_
            refine xq_seq ?_
            refine xc_dec rfl (fun h1 => (by exfalso; omega)) (fun h1 => ?_)
            refine xc_exit ?_
            refine xq_then_exit ?_
            refine xq_then_exit ?_
            refine xq_block_hit ?_
            refine xq_seq ?_
            refine xc_seq ?_
            refine xc_region ?_
            refine xo_rd (rd_move rfl) rfl ?_
            refine xo_rd (rd_move rfl) rfl ?_
            refine xo_rd (rd_indexAddr rfl rfl (by omega) (by omega)) rfl ?_
            refine xo_rd (rd_load1 rfl (hcx _)) rfl ?_
            refine xo_rd (rd_cast (v' := .int .u8 (x % 256)) (rd_conv rfl) rfl) rfl ?_
            refine xo_ef rfl (ef_slice1 rfl rfl rfl fun r135 => ?_)
            refine xo_rd (rd_assign rfl) rfl ?_
            refine xo_nil ?_
            refine xq_seq ?_
          have hsp : ∀ r135 : Nat, SlO 1 5 (.slice (some ⟨r135, 0, none⟩) 1 1) 1 (ints .u8 [x % 256]) [(r135, .cells #[.int .u8 (x % 256)] 5 (0, 0))] := fun r135 => .inr ⟨r135, _, 1, rfl, rfl, Nat.le_refl _, rfl, rfl⟩
          cases may with
          | false =>
            have hput := xf_APutF (W := W) (M := (r135, .cells #[.int .u8 (x % 256)] 5 (0, 0)) :: (wl ++ M)) r b p1 es.length c1 es l rfl hq (by omega) x (some ⟨r135, 0, none⟩) 1 1 hmay
            focus
              refine xc_seq ?_
              refine xc_seq ?_
              refine xc_region ?_
              refine xo_rd (rd_move rfl) rfl ?_
              refine xo_rd (rd_move rfl) rfl ?_
              refine xo_rd (rd_move rfl) rfl ?_
              refine xo_rd (rd_indexAddr rfl rfl (by omega) (by omega)) rfl ?_
              refine xo_rd (rd_load1 rfl (hcx _)) rfl ?_
              refine xo_rd (rd_move rfl) rfl ?_
              refine xo_ef rfl (ef_call rfl (XF.mono (hput.perm (perm_q1 _ _ l (wl ++ M))) ?_))
              rintro v L' ⟨rfl, rfl⟩
              refine xo_perm (perm_q1 _ _ l (wl ++ M)).symm ?_
              refine xo_rd (rd_move rfl) rfl ?_
              refine xo_rd (rd_cast (v' := .bool false) (rd_neb rfl rfl) (congrArg Value.bool (by first | rfl | exact bnot_self _))) rfl ?_
              refine xo_nil ?_
              refine xq_seq ?_
              refine xc_condf rfl ?_
              refine xc_skip ?_
              refine xq_seq ?_
              refine xc_seq ?_
              refine xc_region ?_
              refine xo_rd (rd_move rfl) rfl ?_
              refine xo_ef rfl (ef_call rfl (XF.mono (xf_spoil _ 1 _ [(r135, .cells #[.int .u8 (x % 256)] 5 (0, 0))] (hsp r135) (by decide)) ?_))
              rintro v L' ⟨rfl, xs', l', hO', rfl⟩
              refine xo_sub (List.sublist_append_right l' _) ?_
              refine xo_nil ?_
              refine xq_seq ?_
              refine xc_seq ?_
              refine xc_region ?_
              refine xo_rd (rd_move rfl) rfl ?_
              refine xo_nil ?_
              refine xq_seq ?_
              refine xc_condf rfl ?_
              refine xc_skip ?_
            exact xq_joined (⟨i + 1, es, p1, c1, l, wp, wc, wl, M⟩ : AgS) ⟨rfl, ⟨hq, hw, hpk, by dsimp only; omega⟩⟩ rfl (by repeat (first | exact keep_nil | refine keep_cons rfl ?_))
          | true =>
            have hput := xf_APutT (W := W) (M := (r135, .cells #[.int .u8 (x % 256)] 5 (0, 0)) :: (wl ++ M)) r b p1 es.length c1 es l rfl hq (by omega) x [x % 256] (some ⟨r135, 0, none⟩) 1 1 ((hsp r135).rs fun z hz => List.mem_append_left _ hz) rfl (by decide) hmay
            focus
              refine xc_seq ?_
              refine xc_seq ?_
              refine xc_region ?_
              refine xo_rd (rd_move rfl) rfl ?_
              refine xo_rd (rd_move rfl) rfl ?_
              refine xo_rd (rd_move rfl) rfl ?_
              refine xo_rd (rd_indexAddr rfl rfl (by omega) (by omega)) rfl ?_
              refine xo_rd (rd_load1 rfl (hcx _)) rfl ?_
              refine xo_rd (rd_move rfl) rfl ?_
              refine xo_ef rfl (ef_call rfl (XF.mono (hput.perm (perm_q1 _ _ l (wl ++ M))) ?_))
              rintro v L' ⟨q, k2, p2, c2, l2, lb, rfl, hO2, hq2, rfl⟩
              refine xo_perm (perm_w3 l2 lb (wl ++ M)) ?_
              refine xo_rd (rd_move rfl) rfl ?_
              refine xo_rd (rd_cast (v' := .bool false) (rd_neb rfl rfl) (congrArg Value.bool (by first | rfl | exact bnot_self _))) rfl ?_
              refine xo_nil ?_
              refine xq_seq ?_
              refine xc_condf rfl ?_
              refine xc_skip ?_
              refine xq_seq ?_
              refine xc_seq ?_
              refine xc_region ?_
              refine xo_rd (rd_move rfl) rfl ?_
              refine xo_ef rfl (ef_call rfl (XF.mono (xf_spoil _ 1 _ [(r135, .cells #[.int .u8 (x % 256)] 5 (0, 0))] (hsp r135) (by decide)) ?_))
              rintro v L' ⟨rfl, xs', l', hO', rfl⟩
              refine xo_sub (List.sublist_append_right l' _) ?_
              refine xo_nil ?_
              refine xq_seq ?_
              refine xc_seq ?_
              refine xc_region ?_
              refine xo_rd (rd_move rfl) rfl ?_
              refine xo_nil ?_
              refine xq_seq ?_
              refine xc_condt rfl ?_
              refine xc_region ?_
              refine xo_rd (rd_move rfl) rfl ?_
              refine xo_rd (rd_move rfl) rfl ?_
              refine xo_rd (rd_move rfl) rfl ?_
              refine xo_rd (rd_indexAddr rfl rfl (by omega) (by omega)) rfl ?_
              refine xo_rd (rd_load1 rfl (hcx _)) rfl ?_
              refine xo_ef rfl (ef_slice1 rfl rfl rfl fun r153 => ?_)
              refine xo_ef rfl (ef_appendQS ((r153, .cells #[.int .u16 x] 36 (0, 0)) :: (r, .cells (acl b p2 (es.length + 1) c2).toArray 127 (0, 0)) :: (l2 ++ lb)) M wl (news := [.int .u16 x]) rfl rfl hw (by simp) (Rs.fresh (vs := [.int .u16 x]) (List.Mem.head _)) rfl rfl (by decide) (by omega) (by omega) fun wp2 wc2 wl2 hw2 hwc2 => ?_)
              refine xo_rd (rd_assign rfl) rfl ?_
              refine xo_nil ?_
            have hla : (es ++ [(⟨x, [x % 256], q, k2⟩ : Pk)]).length = es.length + 1 := by rw [List.length_append]; rfl
            refine xq_tail (xq_perm (perm_w4 l2 lb wl2 M) (xq_joined (⟨i + 1, es ++ [⟨x, [x % 256], q, k2⟩], p2, c2, l2, wp2, wc2, wl2, lb ++ M⟩ : AgS) ⟨rfl, ⟨?_, ?_, ?_, ?_⟩⟩ ?_ ?_))
            · dsimp only
              rw [hla]; exact hq2
            · dsimp only
              rw [hla, List.map_append, ints_app]; exact hw2
            · dsimp only
              intro e he
              rcases List.mem_append.1 he with h | h
              · exact ⟨(hpk e h).1, (hpk e h).2.mono fun z hz => List.mem_append_right _ hz⟩
              · rw [List.mem_singleton.1 h]; exact ⟨rfl, hO2.rsl⟩
            · dsimp only
              rw [hla]; omega
            · rw [agL_mk, hla]
            · dsimp only
              rw [hla]
              exact (by repeat (first | exact keep_nil | refine keep_cons rfl ?_))
    · rintro ⟨i', es, p1, c1, l, wp, wc, wl, M⟩ ⟨hi', hok⟩
      dsimp only at hi'
      subst hi'
      have hokk := hok
      rw [agL_mk]
      dsimp only
      focus
        refine xc_seq ?_
        refine xc_region ?_
        refine xo_rd (rd_move rfl) rfl ?_
        refine xo_ef rfl (ef_call rfl (XF.mono (xf_ALen r p1 es.length c1 (Cl.o0 rfl)) ?_))
        rintro v L' ⟨rfl, rfl⟩
        refine xo_rd (rd_move rfl) rfl ?_
        refine xo_rd (rd_len rfl) rfl ?_
        refine xo_rd (rd_neq rfl rfl) rfl ?_
        refine xo_nil ?_
        refine xq_seq ?_
        refine xc_ndec rfl (fun h => absurd rfl h) (fun _ => ?_)
        refine xc_skip ?_
        refine xq_block ?_
        refine xq_seq ?_
        refine xc_region ?_
        refine xo_rd (rd_move rfl) rfl ?_
        refine xo_rd (rd_addn rfl rfl (by omega) (by omega)) rfl ?_
        refine xo_rd (rd_assign rfl) rfl ?_
        refine xo_nil ?_
      exact xq_roundI (⟨i + 1, es, p1, c1, l, wp, wc, wl, M⟩ : AgS) ⟨by dsimp only; omega, hokk⟩ (by dsimp only; omega) rfl (by repeat (first | exact keep_nil | refine keep_cons rfl ?_))
  · skip
    focus
      refine xc_seq ?_
      refine xc_seq ?_
      refine xc_region ?_
      refine xo_rd (rd_move rfl) rfl ?_
      refine xo_rd (rd_move rfl) rfl ?_
      refine xo_rd (rd_len rfl) rfl ?_
      refine xo_rd (rd_lss rfl rfl) rfl ?_
      refine xo_nil ?_
      refine xq_seq ?_
      refine xc_dec rfl (fun h1 => (by exfalso; omega)) (fun h1 => ?_)
      refine xc_exit ?_
      refine xq_then_exit ?_
      refine xq_then_exit ?_
      refine xq_block_hit ?_
      refine xq_seq ?_
      refine xc_seq ?_
      refine xc_region ?_
      refine xo_rd (rd_move rfl) rfl ?_
      refine xo_rd (rd_eql rfl rfl) rfl ?_
      refine xo_rd (rd_move rfl) rfl ?_
      refine xo_gef rfl rfl rfl (ef_call rfl (XF.mono (xf_works) ?_))
      rintro v L' ⟨rfl, rfl⟩
      refine xo_rd (rd_pickt rfl rfl) rfl ?_
      refine xo_rd (rd_assign rfl) rfl ?_
      refine xo_nil ?_
      refine xq_seq ?_
      refine xc_ret ?_
    exact xq_ret1 (.inl rfl) Try.results5 rfl rfl
end Go.Proofs.Ytpheiklhjelkcaa.X
