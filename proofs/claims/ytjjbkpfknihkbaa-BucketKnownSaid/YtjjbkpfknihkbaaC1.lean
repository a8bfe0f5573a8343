/-
  BucketPlays: the walk of the law.
-/
import Derived.Test.YtjjbkpfknihkbaaB5
namespace Go.Proofs.Ytjjbkpfknihkbaa.X
open Go Go.RowKit
set_option linter.unusedVariables false

theorem xf_pick {W : World} {L : List Blk} (i : Int) : XF Try.prog W 21 #[.int .i64 i, .int .i64 4] L (fun v L' => (∃ k, v = .int .i64 k) ∧ L' = L) := by
  refine xf_enter (args := [_, _]) Try.func21 rfl Try.ntmps21 rfl ?_
  refine xc_seq ?_
  refine xc_region ?_
  refine xo_rd (rd_assign rfl) rfl ?_
  refine xo_nil ?_
  refine xq_seq ?_
  refine xc_seq ?_
  refine xc_seq ?_
  refine xc_region ?_
  refine xo_rd (rd_move rfl) rfl ?_
  refine xo_rd (rd_leq rfl rfl) rfl ?_
  refine xo_nil ?_
  refine xq_seq ?_
  refine xc_condf rfl ?_
  refine xc_skip ?_
  refine xq_seq ?_
  refine xc_seq ?_
  refine xc_region ?_
  refine xo_rd (rd_move rfl) rfl ?_
  refine xo_rd (rd_move rfl) rfl ?_
  refine xo_rd (rd_rem rfl rfl (by decide)) rfl ?_
  refine xo_rd (rd_move rfl) rfl ?_
  refine xo_rd (rd_add rfl rfl) rfl ?_
  refine xo_rd (rd_move rfl) rfl ?_
  refine xo_rd (rd_rem rfl rfl (by decide)) rfl ?_
  refine xo_rd (rd_assign rfl) rfl ?_
  refine xo_nil ?_
  refine xq_seq ?_
  refine xc_ret ?_
  refine xq_ret1 (.inl rfl) Try.results21 rfl ⟨⟨_, rfl⟩, rfl⟩

set_option maxHeartbeats 8000000 in
theorem xf_is {W : World} {L : List Blk} (x : Bk) (p : Nat) (n : Int) (hx : x.Ok) (hn : 0 ≤ n) (hn' : n ≤ top) :
    XF Try.prog W 20 #[.pointer (some ⟨p, 0, none⟩), .agg x.enc.toArray, .int .u64 n] (x.at p :: L) (fun v L' => v = .bool true ∧ L' = x.at p :: L) := by
  refine xf_enter (args := [_, _, _]) Try.func20 rfl Try.ntmps20 rfl ?_
  refine xc_seq ?_
  refine xc_region ?_
  refine xo_ef rfl (ef_box rfl fun r1 => ?_)
  refine xo_rd (rd_assign rfl) rfl ?_
  refine xo_nil ?_
  refine xq_seq ?_
  refine xc_seq ?_
  refine xc_region ?_
  refine xo_rd (rd_move rfl) rfl ?_
  refine xo_rd (rd_move rfl) rfl ?_
  refine xo_ef rfl (ef_call rfl ((XF.mid [_] (xf_until x p n hx hn hn')).mono ?_))
  rintro v L' ⟨rfl, rfl⟩
  refine xo_rd (rd_move rfl) rfl ?_
  refine xo_rd (rd_extract rfl rfl) rfl ?_
  refine xo_rd (rd_extract rfl rfl) rfl ?_
  refine xo_rd (rd_assign rfl) rfl ?_
  refine xo_rd (rd_assign rfl) rfl ?_
  refine xo_nil ?_
  refine xq_seq ?_
  refine xc_seq ?_
  refine xc_region ?_
  refine xo_rd (rd_loadB rfl (Kn.o1) (by rfl)) rfl ?_
  refine xo_rd (rd_move rfl) rfl ?_
  refine xo_ef rfl (ef_call rfl ((xf_runtil x n hx hn hn').mono ?_))
  rintro v L' ⟨rfl, rfl⟩
  generalize x.until' n = u
  obtain ⟨m, ok⟩ := u
  dsimp only
  refine xo_rd (rd_move rfl) rfl ?_
  refine xo_rd (rd_extract rfl rfl) rfl ?_
  refine xo_rd (rd_extract rfl rfl) rfl ?_
  refine xo_rd (rd_assign rfl) rfl ?_
  refine xo_rd (rd_assign rfl) rfl ?_
  refine xo_nil ?_
  refine xq_seq ?_
  refine xc_seq ?_
  refine xc_draw [x.at p, (r1, .cells (Value.agg x.enc.toArray).cells 42 (0, 0))] ?_
  refine xr_take 0 rfl (by kernel_rfl) (by kernel_rfl) (by kernel_rfl) (by first | exact Sb.refl | exact Sb.nil | (repeat (first | exact Sb.nil | exact Sb.refl | apply Sb.keep | apply Sb.cons))) (rd_move rfl) rfl ?_
  refine xr_take 2 rfl (by kernel_rfl) (by kernel_rfl) (by kernel_rfl) (by first | exact Sb.refl | exact Sb.nil | (repeat (first | exact Sb.nil | exact Sb.refl | apply Sb.keep | apply Sb.cons))) (rd_fieldAddr rfl) rfl ?_
  refine xr_take 3 rfl (by kernel_rfl) (by kernel_rfl) (by kernel_rfl) (by first | exact Sb.refl | exact Sb.nil | (repeat (first | exact Sb.nil | exact Sb.refl | apply Sb.keep | apply Sb.cons))) (rd_load1 rfl (Cl.o1 rfl)) rfl ?_
  refine xr_one 1 rfl (by kernel_rfl) rfl ?_
  refine ef_call rfl ((xf_tokens x p).mono ?_)
  rintro v L' ⟨rfl, rfl⟩
  refine ⟨(by first | exact Sb.refl | exact Sb.nil | (repeat (first | exact Sb.nil | exact Sb.refl | apply Sb.keep | apply Sb.cons))), ?_⟩
  refine xr_take 4 rfl (by kernel_rfl) (by kernel_rfl) (by kernel_rfl) (by first | exact Sb.refl | exact Sb.nil | (repeat (first | exact Sb.nil | exact Sb.refl | apply Sb.keep | apply Sb.cons))) (rd_eql rfl rfl) rfl ?_
  refine xr_take 5 rfl (by kernel_rfl) (by kernel_rfl) (by kernel_rfl) (by first | exact Sb.refl | exact Sb.nil | (repeat (first | exact Sb.nil | exact Sb.refl | apply Sb.keep | apply Sb.cons))) (rd_move rfl) rfl ?_
  refine xr_split 28 rfl (fun h => ?_) (fun h => absurd rfl (of_decide_eq_false h))
  refine xr_gtake 6 rfl (by kernel_rfl) (by kernel_rfl) (by kernel_rfl) (by first | exact Sb.refl | exact Sb.nil | (repeat (first | exact Sb.nil | exact Sb.refl | apply Sb.keep | apply Sb.cons))) rfl rfl (rd_move rfl) rfl ?_
  refine xr_gtake 8 rfl (by kernel_rfl) (by kernel_rfl) (by kernel_rfl) (by first | exact Sb.refl | exact Sb.nil | (repeat (first | exact Sb.nil | exact Sb.refl | apply Sb.keep | apply Sb.cons))) rfl rfl (rd_fieldAddr rfl) rfl ?_
  refine xr_gtake 9 rfl (by kernel_rfl) (by kernel_rfl) (by kernel_rfl) (by first | exact Sb.refl | exact Sb.nil | (repeat (first | exact Sb.nil | exact Sb.refl | apply Sb.keep | apply Sb.cons))) rfl rfl (rd_load1 rfl (Cl.o1 rfl)) rfl ?_
  refine xr_gone 7 rfl (by kernel_rfl) rfl rfl rfl ?_
  refine ef_call rfl ((xf_rate x p).mono ?_)
  rintro v L' ⟨rfl, rfl⟩
  refine ⟨(by first | exact Sb.refl | exact Sb.nil | (repeat (first | exact Sb.nil | exact Sb.refl | apply Sb.keep | apply Sb.cons))), ?_⟩
  refine xr_gtake 10 rfl (by kernel_rfl) (by kernel_rfl) (by kernel_rfl) (by first | exact Sb.refl | exact Sb.nil | (repeat (first | exact Sb.nil | exact Sb.refl | apply Sb.keep | apply Sb.cons))) rfl rfl (rd_eql rfl rfl) rfl ?_
  refine xr_take 11 rfl (by kernel_rfl) (by kernel_rfl) (by kernel_rfl) (by first | exact Sb.refl | exact Sb.nil | (repeat (first | exact Sb.nil | exact Sb.refl | apply Sb.keep | apply Sb.cons))) (rd_pickt rfl rfl) rfl ?_
  refine xr_take 12 rfl (by kernel_rfl) (by kernel_rfl) (by kernel_rfl) (by first | exact Sb.refl | exact Sb.nil | (repeat (first | exact Sb.nil | exact Sb.refl | apply Sb.keep | apply Sb.cons))) (rd_move rfl) rfl ?_
  refine xr_split 35 rfl (fun h => ?_) (fun h => absurd rfl (of_decide_eq_false h))
  refine xr_gtake 13 rfl (by kernel_rfl) (by kernel_rfl) (by kernel_rfl) (by first | exact Sb.refl | exact Sb.nil | (repeat (first | exact Sb.nil | exact Sb.refl | apply Sb.keep | apply Sb.cons))) rfl rfl (rd_move rfl) rfl ?_
  refine xr_gtake 15 rfl (by kernel_rfl) (by kernel_rfl) (by kernel_rfl) (by first | exact Sb.refl | exact Sb.nil | (repeat (first | exact Sb.nil | exact Sb.refl | apply Sb.keep | apply Sb.cons))) rfl rfl (rd_fieldAddr rfl) rfl ?_
  refine xr_gtake 16 rfl (by kernel_rfl) (by kernel_rfl) (by kernel_rfl) (by first | exact Sb.refl | exact Sb.nil | (repeat (first | exact Sb.nil | exact Sb.refl | apply Sb.keep | apply Sb.cons))) rfl rfl (rd_load1 rfl (Cl.o1 rfl)) rfl ?_
  refine xr_gone 14 rfl (by kernel_rfl) rfl rfl rfl ?_
  refine ef_call rfl ((xf_burst x p).mono ?_)
  rintro v L' ⟨rfl, rfl⟩
  refine ⟨(by first | exact Sb.refl | exact Sb.nil | (repeat (first | exact Sb.nil | exact Sb.refl | apply Sb.keep | apply Sb.cons))), ?_⟩
  refine xr_gtake 17 rfl (by kernel_rfl) (by kernel_rfl) (by kernel_rfl) (by first | exact Sb.refl | exact Sb.nil | (repeat (first | exact Sb.nil | exact Sb.refl | apply Sb.keep | apply Sb.cons))) rfl rfl (rd_eql rfl rfl) rfl ?_
  refine xr_take 18 rfl (by kernel_rfl) (by kernel_rfl) (by kernel_rfl) (by first | exact Sb.refl | exact Sb.nil | (repeat (first | exact Sb.nil | exact Sb.refl | apply Sb.keep | apply Sb.cons))) (rd_pickt rfl rfl) rfl ?_
  refine xr_take 19 rfl (by kernel_rfl) (by kernel_rfl) (by kernel_rfl) (by first | exact Sb.refl | exact Sb.nil | (repeat (first | exact Sb.nil | exact Sb.refl | apply Sb.keep | apply Sb.cons))) (rd_move rfl) rfl ?_
  refine xr_split 42 rfl (fun h => ?_) (fun h => absurd rfl (of_decide_eq_false h))
  refine xr_gtake 20 rfl (by kernel_rfl) (by kernel_rfl) (by kernel_rfl) (by first | exact Sb.refl | exact Sb.nil | (repeat (first | exact Sb.nil | exact Sb.refl | apply Sb.keep | apply Sb.cons))) rfl rfl (rd_move rfl) rfl ?_
  refine xr_gtake 21 rfl (by kernel_rfl) (by kernel_rfl) (by kernel_rfl) (by first | exact Sb.refl | exact Sb.nil | (repeat (first | exact Sb.nil | exact Sb.refl | apply Sb.keep | apply Sb.cons))) rfl rfl (rd_move rfl) rfl ?_
  refine xr_gtake 23 rfl (by kernel_rfl) (by kernel_rfl) (by kernel_rfl) (by first | exact Sb.refl | exact Sb.nil | (repeat (first | exact Sb.nil | exact Sb.refl | apply Sb.keep | apply Sb.cons))) rfl rfl (rd_move rfl) rfl ?_
  refine xr_gtake 24 rfl (by kernel_rfl) (by kernel_rfl) (by kernel_rfl) (by first | exact Sb.refl | exact Sb.nil | (repeat (first | exact Sb.nil | exact Sb.refl | apply Sb.keep | apply Sb.cons))) rfl rfl (rd_fieldAddr rfl) rfl ?_
  refine xr_gtake 25 rfl (by kernel_rfl) (by kernel_rfl) (by kernel_rfl) (by first | exact Sb.refl | exact Sb.nil | (repeat (first | exact Sb.nil | exact Sb.refl | apply Sb.keep | apply Sb.cons))) rfl rfl (rd_load1 rfl (Cl.o1 rfl)) rfl ?_
  refine xr_gtake 26 rfl (by kernel_rfl) (by kernel_rfl) (by kernel_rfl) (by first | exact Sb.refl | exact Sb.nil | (repeat (first | exact Sb.nil | exact Sb.refl | apply Sb.keep | apply Sb.cons))) rfl rfl (rd_leq rfl rfl) rfl ?_
  refine xr_gone 22 rfl (by kernel_rfl) rfl rfl rfl ?_
  refine ef_call rfl ((xf_may x p n).mono ?_)
  rintro v L' ⟨rfl, rfl⟩
  refine ⟨(by first | exact Sb.refl | exact Sb.nil | (repeat (first | exact Sb.nil | exact Sb.refl | apply Sb.keep | apply Sb.cons))), ?_⟩
  refine xr_gtake 27 rfl (by kernel_rfl) (by kernel_rfl) (by kernel_rfl) (by first | exact Sb.refl | exact Sb.nil | (repeat (first | exact Sb.nil | exact Sb.refl | apply Sb.keep | apply Sb.cons))) rfl rfl (rd_eqb rfl rfl) rfl ?_
  refine xr_take 28 rfl (by kernel_rfl) (by kernel_rfl) (by kernel_rfl) (by first | exact Sb.refl | exact Sb.nil | (repeat (first | exact Sb.nil | exact Sb.refl | apply Sb.keep | apply Sb.cons))) (rd_pickt rfl rfl) rfl ?_
  refine xr_take 29 rfl (by kernel_rfl) (by kernel_rfl) (by kernel_rfl) (by first | exact Sb.refl | exact Sb.nil | (repeat (first | exact Sb.nil | exact Sb.refl | apply Sb.keep | apply Sb.cons))) (rd_move rfl) rfl ?_
  refine xr_split 52 rfl (fun h => ?_) (fun h => absurd rfl (of_decide_eq_false h))
  refine xr_gtake 30 rfl (by kernel_rfl) (by kernel_rfl) (by kernel_rfl) (by first | exact Sb.refl | exact Sb.nil | (repeat (first | exact Sb.nil | exact Sb.refl | apply Sb.keep | apply Sb.cons))) rfl rfl (rd_move rfl) rfl ?_
  refine xr_gtake 31 rfl (by kernel_rfl) (by kernel_rfl) (by kernel_rfl) (by first | exact Sb.refl | exact Sb.nil | (repeat (first | exact Sb.nil | exact Sb.refl | apply Sb.keep | apply Sb.cons))) rfl rfl (rd_move rfl) rfl ?_
  refine xr_gtake 32 rfl (by kernel_rfl) (by kernel_rfl) (by kernel_rfl) (by first | exact Sb.refl | exact Sb.nil | (repeat (first | exact Sb.nil | exact Sb.refl | apply Sb.keep | apply Sb.cons))) rfl rfl (rd_eql rfl rfl) rfl ?_
  refine xr_take 33 rfl (by kernel_rfl) (by kernel_rfl) (by kernel_rfl) (by first | exact Sb.refl | exact Sb.nil | (repeat (first | exact Sb.nil | exact Sb.refl | apply Sb.keep | apply Sb.cons))) (rd_pickt rfl rfl) rfl ?_
  refine xr_take 34 rfl (by kernel_rfl) (by kernel_rfl) (by kernel_rfl) (by first | exact Sb.refl | exact Sb.nil | (repeat (first | exact Sb.nil | exact Sb.refl | apply Sb.keep | apply Sb.cons))) (rd_move rfl) rfl ?_
  refine xr_split 57 rfl (fun h => ?_) (fun h => absurd rfl (of_decide_eq_false h))
  refine xr_gtake 35 rfl (by kernel_rfl) (by kernel_rfl) (by kernel_rfl) (by first | exact Sb.refl | exact Sb.nil | (repeat (first | exact Sb.nil | exact Sb.refl | apply Sb.keep | apply Sb.cons))) rfl rfl (rd_move rfl) rfl ?_
  refine xr_gtake 36 rfl (by kernel_rfl) (by kernel_rfl) (by kernel_rfl) (by first | exact Sb.refl | exact Sb.nil | (repeat (first | exact Sb.nil | exact Sb.refl | apply Sb.keep | apply Sb.cons))) rfl rfl (rd_move rfl) rfl ?_
  refine xr_gtake 37 rfl (by kernel_rfl) (by kernel_rfl) (by kernel_rfl) (by first | exact Sb.refl | exact Sb.nil | (repeat (first | exact Sb.nil | exact Sb.refl | apply Sb.keep | apply Sb.cons))) rfl rfl (rd_eqb rfl rfl) rfl ?_
  refine xr_take 38 rfl (by kernel_rfl) (by kernel_rfl) (by kernel_rfl) (by first | exact Sb.refl | exact Sb.nil | (repeat (first | exact Sb.nil | exact Sb.refl | apply Sb.keep | apply Sb.cons))) (rd_pickt rfl rfl) rfl ?_
  refine xr_take 39 rfl (by kernel_rfl) (by kernel_rfl) (by kernel_rfl) (by first | exact Sb.refl | exact Sb.nil | (repeat (first | exact Sb.nil | exact Sb.refl | apply Sb.keep | apply Sb.cons))) (rd_assign rfl) rfl ?_
  refine xr_done (by kernel_rfl) ?_
  refine xq_seq ?_
  refine xc_ret ?_
  refine xq_drop [_] ?_
  refine xq_ret1 (.inl rfl) Try.results20 rfl ⟨by cases ok <;> rfl, rfl⟩
end Go.Proofs.Ytjjbkpfknihkbaa.X
