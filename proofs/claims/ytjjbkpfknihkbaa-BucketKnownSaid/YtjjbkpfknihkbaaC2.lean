/-
  BucketPlays: the walk of the law.
-/
import Derived.Test.YtjjbkpfknihkbaaC1
import Derived.Test.YtjjbkpfknihkbaaC0
namespace Go.Proofs.Ytjjbkpfknihkbaa.X
open Go Go.RowKit
set_option linter.unusedVariables false

set_option maxHeartbeats 8000000 in
theorem xf_BucketPlays {W : World} {L : List Blk} (a0 a1 a2 a4 : Int) (p : Option Addr) (n c : Nat) (xs : List Act) (hx : xs.length = n) (hr : Rs W L p (xs.flatMap Act.enc)) (hall : ∀ x ∈ xs, InK .u64 x.f1 ∧ InK .u64 x.f2)
    (h0 : 0 ≤ a0) (h0' : a0 ≤ top) (h1 : 0 ≤ a1) (h1' : a1 ≤ top) (h2 : 0 ≤ a2) (h2' : a2 ≤ top) (h4 : 0 ≤ a4) (h4' : a4 ≤ top) :
    XF Try.prog W 6 #[.int .u64 a0, .int .u64 a1, .int .u64 a2, .slice p n c, .int .u64 a4] L (fun v L' => v = .bool true ∧ L' = L) := by
  refine xf_enter (args := [_, _, _, _, _]) Try.func6 rfl Try.ntmps6 rfl ?_
  refine xc_seq ?_
  refine xc_region ?_
  refine xo_rd (rd_assign rfl) rfl ?_
  refine xo_nil ?_
  refine xq_seq ?_
  refine xc_seq ?_
  refine xc_seq ?_
  refine xc_region ?_
  refine xo_rd (rd_move rfl) rfl ?_
  refine xo_rd (rd_len rfl) rfl ?_
  refine xo_rd (rd_gtr rfl rfl) rfl ?_
  refine xo_nil ?_
  refine xq_seq ?_
  refine xc_dec rfl (fun h => ?_) (fun h => ?_)
  · refine xc_seq ?_
    refine xc_region ?_
    refine xo_ef rfl (ef_call rfl (xf_works.mono ?_))
    rintro v L' ⟨rfl, rfl⟩
    refine xo_rd (rd_assign rfl) rfl ?_
    refine xo_nil ?_
    refine xq_seq ?_
    refine xc_ret ?_
    refine xq_then_ret ?_
    exact xq_ret1 (.inl rfl) Try.results6 rfl ⟨rfl, rfl⟩
  · by_cases hb : a1 = 0
    · subst hb
      refine xc_skip ?_
      refine xq_seq ?_
      refine xc_seq ?_
      refine xc_region ?_
      refine xo_rd (rd_move rfl) rfl ?_
      refine xo_rd (rd_move rfl) rfl ?_
      refine xo_rd (rd_move rfl) rfl ?_
      refine xo_ef rfl (ef_call rfl ((xf_new0 a0 a2).mono ?_))
      rintro v L' ⟨rfl, rfl⟩
      refine xo_rd (rd_move rfl) rfl ?_
      refine xo_rd (rd_extract rfl rfl) rfl ?_
      refine xo_rd (rd_extract rfl rfl) rfl ?_
      refine xo_rd (rd_assign rfl) rfl ?_
      refine xo_rd (rd_assign rfl) rfl ?_
      refine xo_nil ?_
      refine xq_seq ?_
      refine xc_seq ?_
      refine xc_region ?_
      refine xo_rd (rd_move rfl) rfl ?_
      refine xo_rd (rd_move rfl) rfl ?_
      refine xo_rd (rd_move rfl) rfl ?_
      refine xo_ef rfl (ef_call rfl ((xf_rnew0 a0 a2).mono ?_))
      rintro v L' ⟨rfl, rfl⟩
      refine xo_rd (rd_move rfl) rfl ?_
      refine xo_rd (rd_extract rfl rfl) rfl ?_
      refine xo_rd (rd_extract rfl rfl) rfl ?_
      refine xo_ef rfl (ef_alloc fun rb => ?_)
      refine xo_ef rfl (ef_storeB [] _ rfl rfl (by first | rfl | assumption) rfl rfl rfl ?_)
      refine xo_rd (rd_assign rfl) rfl ?_
      refine xo_nil ?_
      refine xq_seq ?_
      refine xc_seq ?_
      refine xc_seq ?_
      refine xc_region ?_
      refine xo_rd (rd_move rfl) rfl ?_
      refine xo_rd (rd_move rfl) rfl ?_
      refine xo_rd (rd_neq rfl rfl) rfl ?_
      refine xo_rd (rd_move rfl) rfl ?_
      refine xo_grd rfl rfl (rd_move rfl) rfl ?_
      refine xo_grd rfl rfl (rd_eql rfl rfl) rfl ?_
      refine xo_grd rfl rfl (rd_move rfl) rfl ?_
      refine xo_grd rfl rfl (rd_nenil rfl) rfl ?_
      refine xo_grd rfl rfl (rd_neb rfl rfl) rfl ?_
      refine xo_rd (rd_pickf rfl rfl) rfl ?_
      refine xo_nil ?_
      refine xq_seq ?_
      refine xc_condf rfl ?_
      refine xc_skip ?_
      refine xq_seq ?_
      refine xc_seq ?_
      refine xc_seq ?_
      refine xc_region ?_
      refine xo_rd (rd_move rfl) rfl ?_
      refine xo_rd (rd_neq rfl rfl) rfl ?_
      refine xo_nil ?_
      refine xq_seq ?_
      refine xc_condt rfl ?_
      refine xc_seq ?_
      refine xc_region ?_
      refine xo_ef rfl (ef_call rfl (xf_works.mono ?_))
      rintro v L' ⟨rfl, rfl⟩
      refine xo_rd (rd_assign rfl) rfl ?_
      refine xo_nil ?_
      refine xq_seq ?_
      refine xc_ret ?_
      refine xq_then_ret ?_
      refine xq_tail ?_
      exact xq_ret1 (.inl rfl) Try.results6 rfl ⟨rfl, rfl⟩
    · refine xc_skip ?_
      refine xq_seq ?_
      refine xc_seq ?_
      refine xc_region ?_
      refine xo_rd (rd_move rfl) rfl ?_
      refine xo_rd (rd_move rfl) rfl ?_
      refine xo_rd (rd_move rfl) rfl ?_
      refine xo_ef rfl (ef_call rfl ((xf_new a0 a1 a2 hb).mono ?_))
      rintro v L' ⟨pb, rfl, rfl⟩
      refine xo_rd (rd_move rfl) rfl ?_
      refine xo_rd (rd_extract rfl rfl) rfl ?_
      refine xo_rd (rd_extract rfl rfl) rfl ?_
      refine xo_rd (rd_assign rfl) rfl ?_
      refine xo_rd (rd_assign rfl) rfl ?_
      refine xo_nil ?_
      refine xq_seq ?_
      refine xc_seq ?_
      refine xc_region ?_
      refine xo_rd (rd_move rfl) rfl ?_
      refine xo_rd (rd_move rfl) rfl ?_
      refine xo_rd (rd_move rfl) rfl ?_
      refine xo_ef rfl (ef_call rfl ((xf_rnew a0 a1 a2 hb).mono ?_))
      rintro v L' ⟨rfl, rfl⟩
      refine xo_rd (rd_move rfl) rfl ?_
      refine xo_rd (rd_extract rfl rfl) rfl ?_
      refine xo_rd (rd_extract rfl rfl) rfl ?_
      refine xo_ef rfl (ef_alloc fun rb => ?_)
      refine xo_ef rfl (ef_storeB [] _ rfl rfl (by first | rfl | assumption) rfl rfl rfl ?_)
      refine xo_rd (rd_assign rfl) rfl ?_
      refine xo_nil ?_
      refine xq_seq ?_
      refine xc_seq ?_
      refine xc_seq ?_
      refine xc_region ?_
      refine xo_rd (rd_move rfl) rfl ?_
      refine xo_rd (rd_move rfl) rfl ?_
      refine xo_rd (rd_neq rfl rfl) rfl ?_
      refine xo_rd (rd_move rfl) rfl ?_
      refine xo_grd rfl rfl (rd_move rfl) rfl ?_
      refine xo_grd rfl rfl (rd_eql rfl rfl) rfl ?_
      refine xo_grd rfl rfl (rd_move rfl) rfl ?_
      refine xo_grd rfl rfl (rd_nenil rfl) rfl ?_
      refine xo_grd rfl rfl (rd_neb rfl rfl) rfl ?_
      refine xo_rd (rd_pickf rfl rfl) rfl ?_
      refine xo_nil ?_
      refine xq_seq ?_
      refine xc_condf rfl ?_
      refine xc_skip ?_
      refine xq_seq ?_
      refine xc_seq ?_
      refine xc_seq ?_
      refine xc_region ?_
      refine xo_rd (rd_move rfl) rfl ?_
      refine xo_rd (rd_neq rfl rfl) rfl ?_
      refine xo_nil ?_
      refine xq_seq ?_
      refine xc_condf rfl ?_
      refine xc_skip ?_
      refine xq_seq ?_
      refine xc_seq ?_
      refine xc_seq ?_
      refine xc_region ?_
      refine xo_rd (rd_assign rfl) rfl ?_
      refine xo_nil ?_
      refine xq_seq ?_
      refine xc_block ?_
      have o0 : Bk.Ok ⟨a0, a1, a1, a2⟩ := Bk.Ok.new h0 h0' (by omega) h1' h2 h2'
      generalize Bk.mk a0 a1 a1 a2 = x0 at *
      refine xc_up [_] ?_
      refine xc_loopI (ι := Nat × Bk) (fun s => s.1 ≤ n ∧ s.2.Ok) (fun s => n - s.1) (fun s => s.2.at pb :: (rb, .cells s.2.enc.toArray 42 (0, 0)) :: L) (fun s => [(3, .slice p n c), (4, .int .u64 a4), (11, .pointer (some ⟨pb, 0, none⟩)), (13, .pointer (some ⟨rb, 0, none⟩)), (15, .int .i64 s.1)]) (0, x0) ⟨Nat.zero_le _, o0⟩ rfl (keep_cons rfl (keep_cons rfl (keep_cons rfl (keep_cons rfl (keep_cons rfl keep_nil))))) ?_
      rintro ⟨k, x⟩ ⟨hk, hxo⟩
      dsimp only at hk hxo ⊢
      refine xc_seq ?_
      refine xc_seq ?_
      refine xc_region ?_
      refine xo_rd (rd_move rfl) rfl ?_
      refine xo_rd (rd_move rfl) rfl ?_
      refine xo_rd (rd_len rfl) rfl ?_
      refine xo_rd (rd_lss rfl rfl) rfl ?_
      refine xo_nil ?_
      refine xq_seq ?_
      refine xc_dec rfl (fun hlt => ?_) (fun hge => ?_)
      · have hkn : k < n := by omega
        obtain ⟨b, o, hp, hc⟩ := hr.row Act.len (by decide) (k := k) (by omega)
        subst hp
        have ha := hall xs[k] (List.getElem_mem _)
        generalize xs[k] = a at hc ha
        obtain ⟨⟨n0, n1⟩, ⟨t0, t1⟩⟩ := ha
        refine xc_skip ?_
        refine xq_seq ?_
        refine xc_seq ?_
        refine xc_block ?_
        refine xc_seq ?_
        refine xc_region ?_
        refine xo_rd (rd_move rfl) rfl ?_
        refine xo_rd (rd_move rfl) rfl ?_
        refine xo_rd (rd_indexAddr rfl rfl (by omega) (by omega)) rfl ?_
        refine xo_rd (rd_loadA (vs := a.enc) rfl rfl (fun j u hj => (hc j u hj).skip.skip)) rfl ?_
        skip
        refine xo_ef rfl (ef_alloc fun ra => ?_)
        refine xo_ef rfl (ef_storeB [] _ rfl rfl (by first | rfl | assumption) rfl rfl rfl ?_)
        refine xo_nil ?_
        refine xq_seq ?_
        refine xc_seq ?_
        refine xc_seq ?_
        refine xc_region ?_
        refine xo_rd (rd_move rfl) rfl ?_
        refine xo_rd (rd_loadB rfl (Kn.o2) (by rfl)) rfl ?_
        refine xo_rd (rd_move rfl) rfl ?_
        refine xo_ef rfl (ef_call rfl ((XF.mid [_] (xf_is x pb a4 hxo h4 h4')).mono ?_))
        rintro v L' ⟨rfl, rfl⟩
        refine xo_rd (rd_not rfl) rfl ?_
        refine xo_nil ?_
        refine xq_seq ?_
        refine xc_condf rfl ?_
        refine xc_skip ?_
        refine xq_seq ?_
        refine xc_seq ?_
        refine xc_region ?_
        refine xo_rd (rd_fieldAddr rfl) rfl ?_
        refine xo_rd (rd_load1 rfl (Cl.o1 rfl)) rfl ?_
        refine xo_ef rfl (ef_call rfl ((xf_pick a.f0).mono ?_))
        rintro v L' ⟨⟨q, rfl⟩, rfl⟩
        refine xo_nil ?_
        refine xq_seq ?_
        refine xc_block ?_
        refine xc_seq ?_
        refine xc_region ?_
        refine xo_rd (rd_eql rfl rfl) rfl ?_
        refine xo_rd (rd_assign rfl) rfl ?_
        refine xo_nil ?_
        refine xq_seq ?_
        refine xc_dec rfl (fun hq => ?_) (fun hq => ?_)
        · refine xc_seq ?_
          refine xc_region ?_
          refine xo_rd (rd_loadB rfl (Kn.o2) (by rfl)) rfl ?_
          refine xo_rd (rd_fieldAddr rfl) rfl ?_
          refine xo_rd (rd_load1 rfl (Cl.o1 rfl)) rfl ?_
          refine xo_ef rfl (ef_call rfl ((xf_rfill x a.f2 hxo t0 t1).mono ?_))
          rintro v L' ⟨rfl, rfl⟩
          refine xo_ef rfl (ef_storeB [_, _] _ rfl rfl (by first | rfl | assumption) rfl rfl rfl ?_)
          refine xo_nil ?_
          refine xq_seq ?_
          refine xc_seq ?_
          refine xc_draw [(ra, .cells a.enc.toArray 31 (0, 0)), (rb, .cells (x.fill a.f2).enc.toArray 42 (0, 0))] ?_
          refine xr_take 0 rfl (by kernel_rfl) (by kernel_rfl) (by kernel_rfl) (by first | exact Sb.refl | exact Sb.nil | (repeat (first | exact Sb.nil | exact Sb.refl | apply Sb.keep | apply Sb.cons))) (rd_move rfl) rfl ?_
          refine xr_take 1 rfl (by kernel_rfl) (by kernel_rfl) (by kernel_rfl) (by first | exact Sb.refl | exact Sb.nil | (repeat (first | exact Sb.nil | exact Sb.refl | apply Sb.keep | apply Sb.cons))) (rd_fieldAddr rfl) rfl ?_
          refine xr_take 2 rfl (by kernel_rfl) (by kernel_rfl) (by kernel_rfl) (by first | exact Sb.refl | exact Sb.nil | (repeat (first | exact Sb.nil | exact Sb.refl | apply Sb.keep | apply Sb.cons))) (rd_load1 rfl (Cl.o0 rfl)) rfl ?_
          refine xr_take 4 rfl (by kernel_rfl) (by kernel_rfl) (by kernel_rfl) (by first | exact Sb.refl | exact Sb.nil | (repeat (first | exact Sb.nil | exact Sb.refl | apply Sb.keep | apply Sb.cons))) (rd_fieldAddr rfl) rfl ?_
          refine xr_take 5 rfl (by kernel_rfl) (by kernel_rfl) (by kernel_rfl) (by first | exact Sb.refl | exact Sb.nil | (repeat (first | exact Sb.nil | exact Sb.refl | apply Sb.keep | apply Sb.cons))) (rd_load1 rfl (Cl.o1 rfl)) rfl ?_
          refine xr_one 3 rfl (by kernel_rfl) rfl ?_
          refine ef_call rfl ((xf_fill x pb a.f2 hxo t0 t1).mono ?_)
          rintro v L' ⟨rfl, rfl⟩
          refine ⟨(by first | exact Sb.refl | exact Sb.nil | (repeat (first | exact Sb.nil | exact Sb.refl | apply Sb.keep | apply Sb.cons))), ?_⟩
          refine xr_take 6 rfl (by kernel_rfl) (by kernel_rfl) (by kernel_rfl) (by first | exact Sb.refl | exact Sb.nil | (repeat (first | exact Sb.nil | exact Sb.refl | apply Sb.keep | apply Sb.cons))) (rd_neq rfl rfl) rfl ?_
          refine xr_done (by kernel_rfl) ?_
          refine xq_seq ?_
          refine xc_ndec rfl (fun h => absurd rfl h) (fun h => ?_)
          refine xc_skip ?_
          refine xq_block ?_
          refine xq_block ?_
          refine xq_seq ?_
          refine xc_region ?_
          refine xo_rd (rd_move rfl) rfl ?_
          refine xo_rd (rd_addn rfl rfl (by omega) (by omega)) rfl ?_
          refine xo_rd (rd_assign rfl) rfl ?_
          refine xo_nil ?_
          refine xq_drop [_] ?_
          exact xq_roundI (k + 1, x.fill a.f2) ⟨hkn, hxo.fill t0 t1⟩ (by dsimp only; omega) rfl (keep_cons rfl (keep_cons rfl (keep_cons rfl (keep_cons rfl (keep_cons rfl keep_nil)))))
        · refine xc_seq ?_
          refine xc_region ?_
          refine xo_rd (rd_eql rfl rfl) rfl ?_
          refine xo_rd (rd_assign rfl) rfl ?_
          refine xo_nil ?_
          refine xq_seq ?_
          refine xc_dec rfl (fun hq2 => ?_) (fun hq2 => ?_)
          · refine xc_seq ?_
            refine xc_region ?_
            refine xo_rd (rd_move rfl) rfl ?_
            refine xo_rd (rd_fieldAddr rfl) rfl ?_
            refine xo_rd (rd_load1 rfl (Cl.o1 rfl)) rfl ?_
            refine xo_rd (rd_fieldAddr rfl) rfl ?_
            refine xo_rd (rd_load1 rfl (Cl.o1 rfl)) rfl ?_
            refine xo_ef rfl (ef_call rfl ((xf_change x pb a.f1 a.f2 hxo t0 t1).mono ?_))
            rintro v L' ⟨rfl, rfl⟩
            refine xo_nil ?_
            refine xq_seq ?_
            refine xc_region ?_
            refine xo_rd (rd_loadB rfl (Kn.o2) (by rfl)) rfl ?_
            refine xo_rd (rd_fieldAddr rfl) rfl ?_
            refine xo_rd (rd_load1 rfl (Cl.o1 rfl)) rfl ?_
            refine xo_rd (rd_fieldAddr rfl) rfl ?_
            refine xo_rd (rd_load1 rfl (Cl.o1 rfl)) rfl ?_
            refine xo_ef rfl (ef_call rfl ((xf_rchange x a.f2 hxo t0 t1 a.f1).mono ?_))
            rintro v L' ⟨rfl, rfl⟩
            refine xo_ef rfl (ef_storeB [_, _] _ rfl rfl (by first | rfl | assumption) rfl rfl rfl ?_)
            refine xo_nil ?_
            refine xq_block ?_
            refine xq_block ?_
            refine xq_seq ?_
            refine xc_region ?_
            refine xo_rd (rd_move rfl) rfl ?_
            refine xo_rd (rd_addn rfl rfl (by omega) (by omega)) rfl ?_
            refine xo_rd (rd_assign rfl) rfl ?_
            refine xo_nil ?_
            refine xq_drop [_] ?_
            exact xq_roundI (k + 1, x.change a.f1 a.f2) ⟨hkn, hxo.change n0 n1 t0 t1⟩ (by dsimp only; omega) rfl (keep_cons rfl (keep_cons rfl (keep_cons rfl (keep_cons rfl (keep_cons rfl keep_nil)))))
          · refine xc_seq ?_
            refine xc_region ?_
            refine xo_rd (rd_loadB rfl (Kn.o2) (by rfl)) rfl ?_
            refine xo_rd (rd_fieldAddr rfl) rfl ?_
            refine xo_rd (rd_load1 rfl (Cl.o1 rfl)) rfl ?_
            refine xo_ef rfl (ef_call rfl ((xf_rtake x a.f1 hxo n0 n1).mono ?_))
            rintro v L' ⟨rfl, rfl⟩
            refine xo_rd (rd_move rfl) rfl ?_
            refine xo_rd (rd_extract rfl rfl) rfl ?_
            refine xo_rd (rd_extract rfl rfl) rfl ?_
            refine xo_ef rfl (ef_alloc fun rt => ?_)
            refine xo_ef rfl (ef_storeB [] _ rfl rfl (by first | rfl | assumption) rfl rfl rfl ?_)
            refine xo_rd (rd_assign rfl) rfl ?_
            refine xo_nil ?_
            refine xq_seq ?_
            refine xc_seq ?_
            refine xc_region ?_
            refine xo_rd (rd_loadB rfl (Kn.o0) (by rfl)) rfl ?_
            refine xo_ef rfl (ef_storeB [_, _, _] _ rfl rfl (by first | rfl | assumption) rfl rfl rfl ?_)
            refine xo_nil ?_
            refine xq_seq ?_
            refine xc_seq ?_
            refine xc_region ?_
            refine xo_rd (rd_move rfl) rfl ?_
            refine xo_rd (rd_fieldAddr rfl) rfl ?_
            refine xo_rd (rd_load1 rfl (Cl.o2 rfl)) rfl ?_
            refine xo_ef rfl (ef_call rfl ((XF.mid [_] (xf_take x pb a.f1 hxo n0 n1)).mono ?_))
            rintro v L' ⟨rfl, rfl⟩
            generalize decide (x.may a.f1) = e
            refine xo_rd (rd_move rfl) rfl ?_
            refine xo_rd (rd_neb rfl rfl) rfl ?_
            refine xo_nil ?_
            refine xq_seq ?_
            refine xc_condf (by cases e <;> rfl) ?_
            refine xc_skip ?_
            refine xq_block ?_
            refine xq_block ?_
            refine xq_seq ?_
            refine xc_region ?_
            refine xo_rd (rd_move rfl) rfl ?_
            refine xo_rd (rd_addn rfl rfl (by omega) (by omega)) rfl ?_
            refine xo_rd (rd_assign rfl) rfl ?_
            refine xo_nil ?_
            refine xq_drop [_] ?_
            refine xq_drop [_] ?_
            exact xq_roundI (k + 1, x.take a.f1) ⟨hkn, hxo.take n0⟩ (by dsimp only; omega) rfl (keep_cons rfl (keep_cons rfl (keep_cons rfl (keep_cons rfl (keep_cons rfl keep_nil)))))
      · refine xc_exit ?_
        refine xq_then_exit ?_
        refine xq_then_exit ?_
        refine xq_block_hit ?_
        refine xq_seq ?_
        refine xc_seq ?_
        refine xc_region ?_
        refine xo_rd (rd_move rfl) rfl ?_
        refine xo_rd (rd_loadB rfl (Kn.o1) (by rfl)) rfl ?_
        refine xo_rd (rd_move rfl) rfl ?_
        refine xo_ef rfl (ef_call rfl ((xf_is x pb a4 hxo h4 h4').mono ?_))
        rintro v L' ⟨rfl, rfl⟩
        refine xo_rd (rd_move rfl) rfl ?_
        refine xo_gef rfl rfl rfl (ef_call rfl (xf_works.mono ?_))
        rintro v L' ⟨rfl, rfl⟩
        refine xo_rd (rd_pickt rfl rfl) rfl ?_
        refine xo_rd (rd_assign rfl) rfl ?_
        refine xo_nil ?_
        refine xq_seq ?_
        refine xc_ret ?_
        refine xq_tail (xq_tail ?_)
        exact xq_ret1 (.inl rfl) Try.results6 rfl ⟨rfl, rfl⟩
end Go.Proofs.Ytjjbkpfknihkbaa.X
