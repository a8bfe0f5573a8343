/-
  The laws of the bucket: Most, None, Until.
-/
import Derived.Test.YtjjbkpfknihkbaaB5
namespace Go.Proofs.Ytjjbkpfknihkbaa.X
open Go Go.RowKit
set_option linter.unusedVariables false

theorem times_mono {r a b : Int} (hr : 0 ≤ r) (h : a ≤ b) : times r a ≤ times r b := by
  have := Int.mul_le_mul_of_nonneg_left h hr
  unfold times; split <;> split <;> omega
theorem plus_mono {r a b : Int} (h : a ≤ b) : plus r a ≤ plus r b := by
  unfold plus; split <;> split <;> omega

set_option maxHeartbeats 8000000 in
theorem xf_BucketMost {W : World} (a0 a1 a2 a3 : Int) (h0 : 0 ≤ a0) (h0' : a0 ≤ top) (h1 : 0 ≤ a1) (h1' : a1 ≤ top) (h2 : 0 ≤ a2) (h2' : a2 ≤ top) (h3 : 0 ≤ a3) (h3' : a3 ≤ top) :
    XF Try.prog W 5 #[.int .u64 a0, .int .u64 a1, .int .u64 a2, .int .u64 a3] [] (fun v L' => v = .bool true) := by
  refine xf_enter (args := [_, _, _, _]) Try.func5 rfl Try.ntmps5 rfl ?_
  have hq := times_mono h0 (show a2 ≤ a2 + (if top - a2 < a3 then top - a2 else a3) by split <;> omega)
  have hp := plus_mono (r := a1) hq
  have e0 : 0 ≤ a2 + (if top - a2 < a3 then top - a2 else a3) := by split <;> omega
  have e1 : a2 + (if top - a2 < a3 then top - a2 else a3) ≤ top := by split <;> omega
  refine xc_seq ?_
  refine xc_region ?_
  refine xo_rd (rd_assign rfl) rfl ?_
  refine xo_nil ?_
  refine xq_seq ?_
  refine xc_seq ?_
  refine xc_region ?_
  refine xo_rd (rd_move rfl) rfl ?_
  refine xo_rd (rd_move rfl) rfl ?_
  refine xo_rd (rd_move rfl) rfl ?_
  refine xo_ef rfl (ef_call rfl ((xf_most a0 a1 a2 h0 h0' h1 h1' h2 h2').mono ?_))
  rintro v L' ⟨rfl, rfl⟩
  refine xo_rd (rd_assign rfl) rfl ?_
  refine xo_nil ?_
  refine xq_seq ?_
  refine xc_seq ?_
  refine xc_region ?_
  refine xo_rd (rd_move rfl) rfl ?_
  refine xo_rd (rd_move rfl) rfl ?_
  refine xo_rd (rd_move rfl) rfl ?_
  refine xo_rd (rd_move rfl) rfl ?_
  refine xo_ef rfl (ef_call rfl ((xf_rmost a0 a1 a2 h0 h0' h1 h1' h2 h2').mono ?_))
  rintro v L' ⟨rfl, rfl⟩
  refine xo_rd (rd_eql rfl rfl) rfl ?_
  refine xo_rd (rd_move rfl) rfl ?_
  refine xo_dec 20 rfl (fun h4 => ?_) (fun h4 => absurd rfl h4)
  refine xo_grd rfl rfl (rd_move rfl) rfl ?_
  refine xo_grd rfl rfl (rd_move rfl) rfl ?_
  refine xo_grd rfl rfl (rd_move rfl) rfl ?_
  refine xo_grd rfl rfl (rd_move rfl) rfl ?_
  refine xo_gef rfl rfl rfl (ef_call rfl (xf_top.mono ?_))
  rintro v L' ⟨rfl, rfl⟩
  refine xo_grd rfl rfl (rd_move rfl) rfl ?_
  refine xo_grd rfl rfl (rd_subn rfl rfl (by omega) (by unfold top; omega)) rfl ?_
  refine xo_grd rfl rfl (rd_min rfl rfl) rfl ?_
  refine xo_grd rfl rfl (rd_addn rfl rfl (by omega) (by omega)) rfl ?_
  refine xo_gef rfl rfl rfl (ef_call rfl ((xf_most a0 a1 _ h0 h0' h1 h1' e0 e1).mono ?_))
  rintro v L' ⟨rfl, rfl⟩
  refine xo_grd rfl rfl (rd_move rfl) rfl ?_
  refine xo_grd rfl rfl (rd_geq rfl rfl) rfl ?_
  refine xo_rd (rd_pickt rfl rfl) rfl ?_
  refine xo_rd (rd_move rfl) rfl ?_
  refine xo_dec 34 rfl (fun h5 => ?_) (fun h5 => absurd hp h5)
  skip
  refine xo_gef rfl rfl rfl (ef_call rfl (xf_works.mono ?_))
  rintro v L' ⟨rfl, rfl⟩
  refine xo_rd (rd_pickt rfl rfl) rfl ?_
  refine xo_rd (rd_assign rfl) rfl ?_
  refine xo_nil ?_
  refine xq_seq ?_
  refine xc_ret ?_
  refine xq_ret1 (.inl rfl) Try.results5 rfl rfl
end Go.Proofs.Ytjjbkpfknihkbaa.X
