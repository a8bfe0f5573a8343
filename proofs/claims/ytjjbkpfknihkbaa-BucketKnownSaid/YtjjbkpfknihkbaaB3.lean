/-
  The bucket's Until, and the reference's bucket, by walks of my own.
-/
import Derived.Test.YtjjbkpfknihkbaaB2
namespace Go.Proofs.Ytjjbkpfknihkbaa.X
open Go Go.RowKit
set_option linter.unusedVariables false

set_option maxHeartbeats 8000000 in
theorem xf_until {W : World} {L : List Blk} (x : Bk) (p : Nat) (n : Int) (hx : x.Ok) (hn : 0 ≤ n) (hn' : n ≤ top) : XF Try.prog W 16 #[.pointer (some ⟨p, 0, none⟩), .int .u64 n] (x.at p :: L) (fun v L' => v = .tuple #[.int .u64 (x.until' n).1, .bool (x.until' n).2] ∧ L' = x.at p :: L) := by
  refine xf_enter (args := [_, _]) Try.func16 rfl Try.ntmps16 rfl ?_
  refine xc_seq ?_
  refine xc_region ?_
  refine xo_rd (rd_assign rfl) rfl ?_
  refine xo_rd (rd_assign rfl) rfl ?_
  refine xo_nil ?_
  refine xq_seq ?_
  refine xc_seq ?_
  refine xc_block ?_
  refine xc_seq ?_
  refine xc_region ?_
  refine xo_rd (rd_move rfl) rfl ?_
  refine xo_rd (rd_eqnil rfl) rfl ?_
  refine xo_rd (rd_assign rfl) rfl ?_
  refine xo_nil ?_
  refine xq_seq ?_
  refine xc_condf rfl ?_
  refine xc_seq ?_
  refine xc_region ?_
  refine xo_rd (rd_move rfl) rfl ?_
  refine xo_rd (rd_move rfl) rfl ?_
  refine xo_ef rfl (ef_call rfl ((xf_may x p n).mono ?_))
  rintro v L' ⟨rfl, rfl⟩
  refine xo_rd (rd_assign rfl) rfl ?_
  refine xo_nil ?_
  refine xq_seq ?_
  refine xc_dec rfl (fun h => ?_) (fun h => ?_)
  · rw [show x.until' n = (x.a, true) from if_pos h]
    refine xc_seq ?_
    refine xc_region ?_
    refine xo_rd (rd_move rfl) rfl ?_
    refine xo_rd (rd_nilCheck rfl) rfl ?_
    refine xo_rd (rd_fieldAddr rfl) rfl ?_
    refine xo_rd (rd_load1 rfl (Cl.o0 rfl)) rfl ?_
    refine xo_rd (rd_assign rfl) rfl ?_
    refine xo_rd (rd_assign rfl) rfl ?_
    refine xo_nil ?_
    refine xq_seq ?_
    refine xc_ret ?_
    refine xq_block_ret ?_
    refine xq_then_ret ?_
    refine xq_ret2 (.inl rfl) Try.results16 rfl rfl ⟨rfl, rfl⟩
  · refine xc_seq ?_
    refine xc_region ?_
    refine xo_rd (rd_move rfl) rfl ?_
    refine xo_rd (rd_move rfl) rfl ?_
    refine xo_rd (rd_nilCheck rfl) rfl ?_
    refine xo_rd (rd_fieldAddr rfl) rfl ?_
    refine xo_rd (rd_load1 rfl (Cl.o0 rfl)) rfl ?_
    refine xo_rd (rd_gtr rfl rfl) rfl ?_
    refine xo_rd (rd_move rfl) rfl ?_
    refine xo_dec 27 rfl (fun h2 => ?_) (fun h2 => ?_)
    · rw [show x.until' n = (0, false) from (if_neg h).trans (if_pos (.inl h2))]
      refine xo_gskip rfl rfl rfl rfl ?_
      refine xo_gskip rfl rfl rfl rfl ?_
      refine xo_gskip rfl rfl rfl rfl ?_
      refine xo_gskip rfl rfl rfl rfl ?_
      refine xo_gskip rfl rfl rfl rfl ?_
      refine xo_rd (rd_pickt rfl rfl) rfl ?_
      refine xo_rd (rd_assign rfl) rfl ?_
      refine xo_nil ?_
      refine xq_seq ?_
      refine xc_condt rfl ?_
      refine xc_seq ?_
      refine xc_region ?_
      refine xo_rd (rd_assign rfl) rfl ?_
      refine xo_rd (rd_assign rfl) rfl ?_
      refine xo_nil ?_
      refine xq_seq ?_
      refine xc_ret ?_
      refine xq_block_ret ?_
      refine xq_then_ret ?_
      refine xq_ret2 (.inl rfl) Try.results16 rfl rfl ⟨rfl, rfl⟩
    · refine xo_grd rfl rfl (rd_move rfl) rfl ?_
      refine xo_grd rfl rfl (rd_nilCheck rfl) rfl ?_
      refine xo_grd rfl rfl (rd_fieldAddr rfl) rfl ?_
      refine xo_grd rfl rfl (rd_load1 rfl (Cl.o0 rfl)) rfl ?_
      refine xo_grd rfl rfl (rd_eql rfl rfl) rfl ?_
      refine xo_rd (rd_pickf rfl rfl) rfl ?_
      refine xo_rd (rd_assign rfl) rfl ?_
      refine xo_nil ?_
      refine xq_seq ?_
      refine xc_dec rfl (fun h3 => ?_) (fun h3 => ?_)
      · rw [show x.until' n = (0, false) from (if_neg h).trans (if_pos (.inr h3))]
        refine xc_seq ?_
        refine xc_region ?_
        refine xo_rd (rd_assign rfl) rfl ?_
        refine xo_rd (rd_assign rfl) rfl ?_
        refine xo_nil ?_
        refine xq_seq ?_
        refine xc_ret ?_
        refine xq_block_ret ?_
        refine xq_then_ret ?_
        refine xq_ret2 (.inl rfl) Try.results16 rfl rfl ⟨rfl, rfl⟩
      · have hu : x.until' n = _ := (if_neg h).trans (if_neg (by rintro (h | h); exact h2 h; exact h3 h))
        have h' : ¬ n ≤ x.t := h
        have ht0 := hx.t0
        have hr0 := hx.r0
        have hr1 := hx.r1
        have ha0 := hx.a0
        have ha1 := hx.a1
        refine xc_skip ?_
        refine xq_block ?_
        refine xq_seq ?_
        refine xc_seq ?_
        refine xc_region ?_
        refine xo_rd (rd_move rfl) rfl ?_
        refine xo_rd (rd_move rfl) rfl ?_
        refine xo_ef rfl (ef_call rfl ((xf_tokens x p).mono ?_))
        rintro v L' ⟨rfl, rfl⟩
        refine xo_rd (rd_sub rfl rfl) rfl ?_
        refine xo_rd (rd_move rfl) rfl ?_
        refine xo_ef rfl (ef_call rfl ((xf_rate x p).mono ?_))
        rintro v L' ⟨rfl, rfl⟩
        refine xo_rd (rd_assign rfl) rfl ?_
        refine xo_rd (rd_assign rfl) rfl ?_
        refine xo_nil ?_
        refine xq_seq ?_
        refine xc_seq ?_
        refine xc_region ?_
        refine xo_rd (rd_move rfl) rfl ?_
        refine xo_rd (rd_sub rfl rfl) rfl ?_
        refine xo_rd (rd_move rfl) rfl ?_
        have e1 : IntKind.u64.wrap (n - x.t) = n - x.t := by rw [wrap_u64]; unfold top at hn'; omega
        have e2 : IntKind.u64.wrap (n - x.t - 1) = n - x.t - 1 := by rw [wrap_u64]; unfold top at hn'; omega
        rw [e1, e2]
        have q0 : 0 ≤ (n - x.t - 1) / x.r := Int.ediv_nonneg (by omega) hr0
        have q1 : (n - x.t - 1) / x.r ≤ n - x.t - 1 := Int.ediv_le_self _ (by omega)
        refine xo_rd (rd_quon rfl rfl (by omega) (by omega) (by unfold top at hn'; omega) (by decide)) rfl ?_
        generalize (n - x.t - 1) / x.r = q at *
        refine xo_rd (rd_add rfl rfl) rfl ?_
        refine xo_rd (rd_assign rfl) rfl ?_
        refine xo_nil ?_
        refine xq_seq ?_
        refine xc_seq ?_
        refine xc_seq ?_
        refine xc_region ?_
        refine xo_rd (rd_move rfl) rfl ?_
        refine xo_rd (rd_move rfl) rfl ?_
        refine xo_rd (rd_nilCheck rfl) rfl ?_
        refine xo_rd (rd_fieldAddr rfl) rfl ?_
        refine xo_rd (rd_load1 rfl (Cl.o0 rfl)) rfl ?_
        refine xo_rd (rd_sub rfl rfl) rfl ?_
        refine xo_rd (rd_gtr rfl rfl) rfl ?_
        refine xo_nil ?_
        refine xq_seq ?_
        have e3 : IntKind.u64.wrap (18446744073709551615 - x.a) = top - x.a := by rw [wrap_u64]; unfold top at ha1 ⊢; omega
        have e4 : IntKind.u64.wrap (q + 1) = q + 1 := by rw [wrap_u64]; unfold top at hn'; omega
        rw [e3, e4]
        refine xc_dec rfl (fun h4 => ?_) (fun h4 => ?_)
        · rw [if_pos h4] at hu
          refine xc_seq ?_
          refine xc_region ?_
          refine xo_rd (rd_assign rfl) rfl ?_
          refine xo_rd (rd_assign rfl) rfl ?_
          refine xo_nil ?_
          refine xq_seq ?_
          refine xc_ret ?_
          refine xq_then_ret ?_
          refine xq_ret2 (.inl rfl) Try.results16 rfl rfl ⟨by rw [hu], rfl⟩
        · rw [if_neg h4] at hu
          refine xc_skip ?_
          refine xq_seq ?_
          refine xc_seq ?_
          refine xc_region ?_
          refine xo_rd (rd_move rfl) rfl ?_
          refine xo_rd (rd_nilCheck rfl) rfl ?_
          refine xo_rd (rd_fieldAddr rfl) rfl ?_
          refine xo_rd (rd_load1 rfl (Cl.o0 rfl)) rfl ?_
          refine xo_rd (rd_move rfl) rfl ?_
          refine xo_rd (rd_add rfl rfl) rfl ?_
          refine xo_rd (rd_assign rfl) rfl ?_
          refine xo_rd (rd_assign rfl) rfl ?_
          refine xo_nil ?_
          refine xq_seq ?_
          refine xc_ret ?_
          have e5 : IntKind.u64.wrap (x.a + (q + 1)) = x.a + (q + 1) := by rw [wrap_u64]; unfold top at h4; omega
          rw [e5]
          refine xq_ret2 (.inl rfl) Try.results16 rfl rfl ⟨by rw [hu], rfl⟩
end Go.Proofs.Ytjjbkpfknihkbaa.X
