/-
  A bucket that is not there: BucketNone's walk.
-/
import Derived.Test.YtjjbkpfknihkbaaB5
namespace Go.Proofs.Ytjjbkpfknihkbaa.X
open Go Go.RowKit
set_option linter.unusedVariables false

theorem xn_tokens {W : World} {L : List Blk}  : XF Try.prog W 13 #[.pointer none] L (fun v L' => v = .int .u64 0 ∧ L' = L) := by
  refine xf_enter (args := [.pointer none]) Try.func13 rfl Try.ntmps13 rfl ?_
  refine xc_seq ?_
  refine xc_region ?_
  refine xo_rd (rd_assign rfl) rfl ?_
  refine xo_nil ?_
  refine xq_seq ?_
  refine xc_seq ?_
  refine xc_seq ?_
  refine xc_region ?_
  refine xo_rd (rd_move rfl) rfl ?_
  refine xo_rd (rd_eqnil rfl) rfl ?_
  refine xo_nil ?_
  refine xq_seq ?_
  refine xc_condt rfl ?_
  refine xc_seq ?_
  refine xc_region ?_
  refine xo_rd (rd_assign rfl) rfl ?_
  refine xo_nil ?_
  refine xq_seq ?_
  refine xc_ret ?_
  refine xq_then_ret ?_
  refine xq_ret1 (.inl rfl) Try.results13 rfl ⟨rfl, rfl⟩

theorem xn_rate {W : World} {L : List Blk}  : XF Try.prog W 26 #[.pointer none] L (fun v L' => v = .int .u64 0 ∧ L' = L) := by
  refine xf_enter (args := [.pointer none]) Try.func26 rfl Try.ntmps26 rfl ?_
  refine xc_seq ?_
  refine xc_region ?_
  refine xo_rd (rd_assign rfl) rfl ?_
  refine xo_nil ?_
  refine xq_seq ?_
  refine xc_seq ?_
  refine xc_seq ?_
  refine xc_region ?_
  refine xo_rd (rd_move rfl) rfl ?_
  refine xo_rd (rd_eqnil rfl) rfl ?_
  refine xo_nil ?_
  refine xq_seq ?_
  refine xc_condt rfl ?_
  refine xc_seq ?_
  refine xc_region ?_
  refine xo_rd (rd_assign rfl) rfl ?_
  refine xo_nil ?_
  refine xq_seq ?_
  refine xc_ret ?_
  refine xq_then_ret ?_
  refine xq_ret1 (.inl rfl) Try.results26 rfl ⟨rfl, rfl⟩

theorem xn_burst {W : World} {L : List Blk}  : XF Try.prog W 27 #[.pointer none] L (fun v L' => v = .int .u64 0 ∧ L' = L) := by
  refine xf_enter (args := [.pointer none]) Try.func27 rfl Try.ntmps27 rfl ?_
  refine xc_seq ?_
  refine xc_region ?_
  refine xo_rd (rd_assign rfl) rfl ?_
  refine xo_nil ?_
  refine xq_seq ?_
  refine xc_seq ?_
  refine xc_seq ?_
  refine xc_region ?_
  refine xo_rd (rd_move rfl) rfl ?_
  refine xo_rd (rd_eqnil rfl) rfl ?_
  refine xo_nil ?_
  refine xq_seq ?_
  refine xc_condt rfl ?_
  refine xc_seq ?_
  refine xc_region ?_
  refine xo_rd (rd_assign rfl) rfl ?_
  refine xo_nil ?_
  refine xq_seq ?_
  refine xc_ret ?_
  refine xq_then_ret ?_
  refine xq_ret1 (.inl rfl) Try.results27 rfl ⟨rfl, rfl⟩

theorem xn_may {W : World} {L : List Blk} (n : Int) : XF Try.prog W 17 #[.pointer none, .int .u64 n] L (fun v L' => v = .bool false ∧ L' = L) := by
  refine xf_enter (args := [.pointer none, .int .u64 n]) Try.func17 rfl Try.ntmps17 rfl ?_
  refine xc_seq ?_
  refine xc_region ?_
  refine xo_rd (rd_assign rfl) rfl ?_
  refine xo_nil ?_
  refine xq_seq ?_
  refine xc_seq ?_
  refine xc_region ?_
  refine xo_rd (rd_move rfl) rfl ?_
  refine xo_rd (rd_nenil rfl) rfl ?_
  refine xo_rd (rd_move rfl) rfl ?_
  refine xo_gskip rfl rfl rfl rfl ?_
  refine xo_gskip rfl rfl rfl rfl ?_
  refine xo_gskip rfl rfl rfl rfl ?_
  refine xo_gskip rfl rfl rfl rfl ?_
  refine xo_gskip rfl rfl rfl rfl ?_
  refine xo_gskip rfl rfl rfl rfl ?_
  refine xo_rd (rd_pickf rfl rfl) rfl ?_
  refine xo_rd (rd_assign rfl) rfl ?_
  refine xo_nil ?_
  refine xq_seq ?_
  refine xc_ret ?_
  refine xq_ret1 (.inl rfl) Try.results17 rfl ⟨rfl, rfl⟩

theorem xn_fill {W : World} {L : List Blk} (n : Int) : XF Try.prog W 11 #[.pointer none, .int .u64 n] L (fun v L' => v = .int .u64 0 ∧ L' = L) := by
  refine xf_enter (args := [.pointer none, .int .u64 n]) Try.func11 rfl Try.ntmps11 rfl ?_
  refine xc_seq ?_
  refine xc_region ?_
  refine xo_rd (rd_assign rfl) rfl ?_
  refine xo_nil ?_
  refine xq_seq ?_
  refine xc_seq ?_
  refine xc_seq ?_
  refine xc_region ?_
  refine xo_rd (rd_move rfl) rfl ?_
  refine xo_rd (rd_nenil rfl) rfl ?_
  refine xo_rd (rd_move rfl) rfl ?_
  refine xo_gskip rfl rfl rfl rfl ?_
  refine xo_gskip rfl rfl rfl rfl ?_
  refine xo_gskip rfl rfl rfl rfl ?_
  refine xo_gskip rfl rfl rfl rfl ?_
  refine xo_gskip rfl rfl rfl rfl ?_
  refine xo_gskip rfl rfl rfl rfl ?_
  refine xo_rd (rd_pickf rfl rfl) rfl ?_
  refine xo_nil ?_
  refine xq_seq ?_
  refine xc_condf rfl ?_
  refine xc_skip ?_
  refine xq_seq ?_
  refine xc_seq ?_
  refine xc_region ?_
  refine xo_rd (rd_move rfl) rfl ?_
  refine xo_ef rfl (ef_call rfl ((xn_tokens).mono ?_))
  rintro v L' ⟨rfl, rfl⟩
  refine xo_rd (rd_assign rfl) rfl ?_
  refine xo_nil ?_
  refine xq_seq ?_
  refine xc_ret ?_
  refine xq_ret1 (.inl rfl) Try.results11 rfl ⟨rfl, rfl⟩

theorem xn_take {W : World} {L : List Blk} (n : Int) : XF Try.prog W 12 #[.pointer none, .int .u64 n] L (fun v L' => v = .bool false ∧ L' = L) := by
  refine xf_enter (args := [.pointer none, .int .u64 n]) Try.func12 rfl Try.ntmps12 rfl ?_
  refine xc_seq ?_
  refine xc_region ?_
  refine xo_rd (rd_assign rfl) rfl ?_
  refine xo_nil ?_
  refine xq_seq ?_
  refine xc_seq ?_
  refine xc_seq ?_
  refine xc_region ?_
  refine xo_rd (rd_move rfl) rfl ?_
  refine xo_rd (rd_move rfl) rfl ?_
  refine xo_ef rfl (ef_call rfl ((xn_may n).mono ?_))
  rintro v L' ⟨rfl, rfl⟩
  refine xo_rd (rd_not rfl) rfl ?_
  refine xo_nil ?_
  refine xq_seq ?_
  refine xc_condt rfl ?_
  refine xc_seq ?_
  refine xc_region ?_
  refine xo_rd (rd_assign rfl) rfl ?_
  refine xo_nil ?_
  refine xq_seq ?_
  refine xc_ret ?_
  refine xq_then_ret ?_
  refine xq_ret1 (.inl rfl) Try.results12 rfl ⟨rfl, rfl⟩

theorem xn_change {W : World} {L : List Blk} (r n : Int) : XF Try.prog W 23 #[.pointer none, .int .u64 r, .int .u64 n] L (fun v L' => v = .tuple #[] ∧ L' = L) := by
  refine xf_enter (args := [.pointer none, .int .u64 r, .int .u64 n]) Try.func23 rfl Try.ntmps23 rfl ?_
  refine xc_seq ?_
  refine xc_region ?_
  refine xo_rd (rd_move rfl) rfl ?_
  refine xo_rd (rd_nenil rfl) rfl ?_
  refine xo_nil ?_
  refine xq_seq ?_
  refine xc_condf rfl ?_
  refine xc_skip ?_
  refine xq_ret0 (.inr rfl) Try.results23 ⟨rfl, rfl⟩

theorem xn_until {W : World} {L : List Blk} (n : Int) : XF Try.prog W 16 #[.pointer none, .int .u64 n] L (fun v L' => v = .tuple #[.int .u64 0, .bool false] ∧ L' = L) := by
  refine xf_enter (args := [.pointer none, .int .u64 n]) Try.func16 rfl Try.ntmps16 rfl ?_
  refine xc_seq ?_
  refine xc_region ?_
  refine xo_rd (rd_assign rfl) rfl ?_
  refine xo_rd (rd_assign rfl) rfl ?_
  refine xo_nil ?_
  refine xq_seq ?_
  refine xc_seq ?_
  refine xc_block ?_
  refine xc_seq ?_
  refine xc_region ?_
  refine xo_rd (rd_move rfl) rfl ?_
  refine xo_rd (rd_eqnil rfl) rfl ?_
  refine xo_rd (rd_assign rfl) rfl ?_
  refine xo_nil ?_
  refine xq_seq ?_
  refine xc_condt rfl ?_
  refine xc_seq ?_
  refine xc_region ?_
  refine xo_rd (rd_assign rfl) rfl ?_
  refine xo_rd (rd_assign rfl) rfl ?_
  refine xo_nil ?_
  refine xq_seq ?_
  refine xc_ret ?_
  refine xq_block_ret ?_
  refine xq_then_ret ?_
  refine xq_ret2 (.inl rfl) Try.results16 rfl rfl ⟨rfl, rfl⟩

set_option maxHeartbeats 8000000 in
theorem xf_BucketNone {W : World} (a0 a1 : Int) : XF Try.prog W 7 #[.int .u64 a0, .int .u64 a1] [] (fun v L' => v = .bool true) := by
  refine xf_enter (args := [_, _]) Try.func7 rfl Try.ntmps7 rfl ?_
  refine xc_seq ?_
  refine xc_region ?_
  refine xo_rd (rd_assign rfl) rfl ?_
  refine xo_nil ?_
  refine xq_seq ?_
  refine xc_seq ?_
  refine xc_region ?_
  refine xo_rd (rd_assign rfl) rfl ?_
  refine xo_nil ?_
  refine xq_seq ?_
  refine xc_seq ?_
  refine xc_region ?_
  refine xo_rd (rd_move rfl) rfl ?_
  refine xo_rd (rd_move rfl) rfl ?_
  refine xo_rd (rd_move rfl) rfl ?_
  refine xo_ef rfl (ef_call rfl ((xn_change a0 a1).mono ?_))
  rintro v L' ⟨rfl, rfl⟩
  refine xo_nil ?_
  refine xq_seq ?_
  refine xc_seq ?_
  refine xc_region ?_
  refine xo_rd (rd_move rfl) rfl ?_
  refine xo_rd (rd_move rfl) rfl ?_
  refine xo_ef rfl (ef_call rfl ((xn_until a0).mono ?_))
  rintro v L' ⟨rfl, rfl⟩
  refine xo_rd (rd_move rfl) rfl ?_
  refine xo_rd (rd_extract rfl rfl) rfl ?_
  refine xo_rd (rd_extract rfl rfl) rfl ?_
  refine xo_rd (rd_assign rfl) rfl ?_
  refine xo_rd (rd_assign rfl) rfl ?_
  refine xo_nil ?_
  refine xq_seq ?_
  refine xc_seq ?_
  refine xc_region ?_
  refine xo_rd (rd_move rfl) rfl ?_
  refine xo_rd (rd_move rfl) rfl ?_
  refine xo_ef rfl (ef_call rfl ((xn_fill a1).mono ?_))
  rintro v L' ⟨rfl, rfl⟩
  refine xo_rd (rd_eql rfl rfl) rfl ?_
  refine xo_rd (rd_move rfl) rfl ?_
  refine xo_grd rfl rfl (rd_move rfl) rfl ?_
  refine xo_grd rfl rfl (rd_move rfl) rfl ?_
  refine xo_gef rfl rfl rfl (ef_call rfl ((xn_take a0).mono ?_))
  rintro v L' ⟨rfl, rfl⟩
  refine xo_grd rfl rfl (rd_not rfl) rfl ?_
  refine xo_rd (rd_pickt rfl rfl) rfl ?_
  refine xo_rd (rd_move rfl) rfl ?_
  refine xo_grd rfl rfl (rd_move rfl) rfl ?_
  refine xo_grd rfl rfl (rd_move rfl) rfl ?_
  refine xo_gef rfl rfl rfl (ef_call rfl ((xn_may a0).mono ?_))
  rintro v L' ⟨rfl, rfl⟩
  refine xo_grd rfl rfl (rd_not rfl) rfl ?_
  refine xo_rd (rd_pickt rfl rfl) rfl ?_
  refine xo_rd (rd_move rfl) rfl ?_
  refine xo_grd rfl rfl (rd_move rfl) rfl ?_
  refine xo_gef rfl rfl rfl (ef_call rfl ((xn_tokens).mono ?_))
  rintro v L' ⟨rfl, rfl⟩
  refine xo_grd rfl rfl (rd_eql rfl rfl) rfl ?_
  refine xo_rd (rd_pickt rfl rfl) rfl ?_
  refine xo_rd (rd_move rfl) rfl ?_
  refine xo_grd rfl rfl (rd_move rfl) rfl ?_
  refine xo_gef rfl rfl rfl (ef_call rfl ((xn_rate).mono ?_))
  rintro v L' ⟨rfl, rfl⟩
  refine xo_grd rfl rfl (rd_eql rfl rfl) rfl ?_
  refine xo_rd (rd_pickt rfl rfl) rfl ?_
  refine xo_rd (rd_move rfl) rfl ?_
  refine xo_grd rfl rfl (rd_move rfl) rfl ?_
  refine xo_gef rfl rfl rfl (ef_call rfl ((xn_burst).mono ?_))
  rintro v L' ⟨rfl, rfl⟩
  refine xo_grd rfl rfl (rd_eql rfl rfl) rfl ?_
  refine xo_rd (rd_pickt rfl rfl) rfl ?_
  refine xo_rd (rd_move rfl) rfl ?_
  refine xo_grd rfl rfl (rd_move rfl) rfl ?_
  refine xo_grd rfl rfl (rd_eql rfl rfl) rfl ?_
  refine xo_rd (rd_pickt rfl rfl) rfl ?_
  refine xo_rd (rd_move rfl) rfl ?_
  refine xo_grd rfl rfl (rd_move rfl) rfl ?_
  refine xo_grd rfl rfl (rd_not rfl) rfl ?_
  refine xo_rd (rd_pickt rfl rfl) rfl ?_
  refine xo_rd (rd_move rfl) rfl ?_
  refine xo_gef rfl rfl rfl (ef_call rfl ((xf_works).mono ?_))
  rintro v L' ⟨rfl, rfl⟩
  refine xo_rd (rd_pickt rfl rfl) rfl ?_
  refine xo_rd (rd_assign rfl) rfl ?_
  refine xo_nil ?_
  refine xq_seq ?_
  refine xc_ret ?_
  exact xq_ret1 (.inl rfl) Try.results7 rfl rfl
end Go.Proofs.Ytjjbkpfknihkbaa.X
