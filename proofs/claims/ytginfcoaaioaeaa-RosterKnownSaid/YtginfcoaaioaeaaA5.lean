/-
  The chapter's examples of the roster; a roster that is not there: walks of my own.
-/
import Derived.Test.YtginfcoaaioaeaaA4
namespace Go.Proofs.Ytginfcoaaioaeaa.X
open Go Go.RowKit
set_option linter.unusedVariables false
set_option linter.unusedSimpArgs false
set_option maxHeartbeats 4000000 in
theorem xf_works0 {W : World} : XF Try.prog W 8 #[] [] (fun v L' => v = .bool true) := by
  refine xf_enter (args := []) Try.func8 rfl Try.ntmps8 rfl ?_
  focus
    refine xc_seq ?_
    refine xc_region ?_
    refine xo_rd (rd_assign rfl) rfl ?_
    refine xo_nil ?_
    refine xq_seq ?_
    refine xc_seq ?_
    refine xc_region ?_
  refine xo_ef rfl (ef_call rfl (XF.mono (xf_new 2 (by omega)) ?_))
  rintro v L' ⟨x0, hx0, rfl, hm0, hs0, rfl⟩
  focus
    refine xo_rd (rd_move rfl) rfl ?_
    refine xo_rd (rd_extract rfl rfl) rfl ?_
    refine xo_rd (rd_extract rfl rfl) rfl ?_
    refine xo_rd (rd_assign rfl) rfl ?_
    refine xo_rd (rd_assign rfl) rfl ?_
    refine xo_nil ?_
    refine xq_seq ?_
    refine xc_seq ?_
    refine xc_seq ?_
    refine xc_region ?_
    refine xo_rd (rd_move rfl) rfl ?_
    refine xo_rd (rd_neq rfl rfl) rfl ?_
    refine xo_nil ?_
    refine xq_seq ?_
    refine xc_condf rfl ?_
    refine xc_skip ?_
    refine xq_seq ?_
    refine xc_seq ?_
    refine xc_region ?_
    refine xo_rd (rd_move rfl) rfl ?_
    refine xo_rd (rd_build rfl rfl rfl) rfl ?_
  have e1 : joinE x0.most x0.ms ⟨5, 10, 11, false⟩ = 0 ∧ joinL x0.most x0.ms ⟨5, 10, 11, false⟩ = [⟨5, 10, 11, false⟩] := by rw [hm0, hs0]; decide
  refine xo_ef rfl (ef_call rfl (XF.mono (xf_join x0 hx0 ⟨5, 10, 11, false⟩) ?_))
  rintro v L' ⟨rfl, x1, hx1, hc1, hm1, hs1, rfl⟩
  rw [e1.1, ← hc1]
  rw [e1.2] at hs1
  rw [hm0] at hm1
  focus
    refine xo_rd (rd_move rfl) rfl ?_
    refine xo_rd (rd_build rfl rfl rfl) rfl ?_
  have e2 : joinE x1.most x1.ms ⟨5, 12, 13, false⟩ = 132 ∧ joinL x1.most x1.ms ⟨5, 12, 13, false⟩ = [⟨5, 10, 11, false⟩] := by rw [hm1, hs1]; decide
  refine xo_ef rfl (ef_call rfl (XF.mono (xf_join x1 hx1 ⟨5, 12, 13, false⟩) ?_))
  rintro v L' ⟨rfl, x2, hx2, hc2, hm2, hs2, rfl⟩
  rw [e2.1, ← hc2]
  rw [e2.2] at hs2
  rw [hm1] at hm2
  focus
    refine xo_rd (rd_move rfl) rfl ?_
    refine xo_rd (rd_build rfl rfl rfl) rfl ?_
  have e3 : joinE x2.most x2.ms ⟨6, 11, 12, false⟩ = 140 ∧ joinL x2.most x2.ms ⟨6, 11, 12, false⟩ = [⟨5, 10, 11, false⟩] := by rw [hm2, hs2]; decide
  refine xo_ef rfl (ef_call rfl (XF.mono (xf_join x2 hx2 ⟨6, 11, 12, false⟩) ?_))
  rintro v L' ⟨rfl, x3, hx3, hc3, hm3, hs3, rfl⟩
  rw [e3.1, ← hc3]
  rw [e3.2] at hs3
  rw [hm2] at hm3
  focus
    refine xo_rd (rd_move rfl) rfl ?_
    refine xo_rd (rd_build rfl rfl rfl) rfl ?_
  have e4 : joinE x3.most x3.ms ⟨6, 12, 12, false⟩ = 2 ∧ joinL x3.most x3.ms ⟨6, 12, 12, false⟩ = [⟨5, 10, 11, false⟩] := by rw [hm3, hs3]; decide
  refine xo_ef rfl (ef_call rfl (XF.mono (xf_join x3 hx3 ⟨6, 12, 12, false⟩) ?_))
  rintro v L' ⟨rfl, x4, hx4, hc4, hm4, hs4, rfl⟩
  rw [e4.1, ← hc4]
  rw [e4.2] at hs4
  rw [hm3] at hm4
  focus
    refine xo_rd (rd_assign rfl) rfl ?_
    refine xo_rd (rd_assign rfl) rfl ?_
    refine xo_rd (rd_assign rfl) rfl ?_
    refine xo_rd (rd_assign rfl) rfl ?_
    refine xo_nil ?_
    refine xq_seq ?_
    refine xc_seq ?_
    refine xc_region ?_
    refine xo_rd (rd_move rfl) rfl ?_
    refine xo_rd (rd_build rfl rfl rfl) rfl ?_
  have e5 : joinE x4.most x4.ms ⟨6, 12, 13, false⟩ = 0 ∧ joinL x4.most x4.ms ⟨6, 12, 13, false⟩ = [⟨5, 10, 11, false⟩, ⟨6, 12, 13, false⟩] := by rw [hm4, hs4]; decide
  refine xo_ef rfl (ef_call rfl (XF.mono (xf_join x4 hx4 ⟨6, 12, 13, false⟩) ?_))
  rintro v L' ⟨rfl, x5, hx5, hc5, hm5, hs5, rfl⟩
  rw [e5.1, ← hc5]
  rw [e5.2] at hs5
  rw [hm4] at hm5
  focus
    refine xo_rd (rd_move rfl) rfl ?_
    refine xo_rd (rd_build rfl rfl rfl) rfl ?_
  have e6 : joinE x5.most x5.ms ⟨7, 14, 15, false⟩ = 131 ∧ joinL x5.most x5.ms ⟨7, 14, 15, false⟩ = [⟨5, 10, 11, false⟩, ⟨6, 12, 13, false⟩] := by rw [hm5, hs5]; decide
  refine xo_ef rfl (ef_call rfl (XF.mono (xf_join x5 hx5 ⟨7, 14, 15, false⟩) ?_))
  rintro v L' ⟨rfl, x6, hx6, hc6, hm6, hs6, rfl⟩
  rw [e6.1, ← hc6]
  rw [e6.2] at hs6
  rw [hm5] at hm6
  focus
    refine xo_rd (rd_assign rfl) rfl ?_
    refine xo_rd (rd_assign rfl) rfl ?_
    refine xo_nil ?_
    refine xq_seq ?_
    refine xc_seq ?_
    refine xc_region ?_
    refine xo_rd (rd_move rfl) rfl ?_
  refine xo_ef rfl (ef_call rfl (XF.mono (xf_source_some x6 hx6 11 ⟨5, 10, 11, false⟩ (by rw [hs6]; rfl)) ?_))
  rintro v L' ⟨rfl, rfl⟩
  focus
    refine xo_rd (rd_move rfl) rfl ?_
    refine xo_rd (rd_extract rfl rfl) rfl ?_
    refine xo_rd (rd_extract rfl rfl) rfl ?_
    refine xo_rd (rd_extract rfl rfl) rfl ?_
    refine xo_ef rfl (ef_alloc fun r9 => ?_)
    refine xo_ef rfl (ef_storeB [] _ rfl rfl (by first | rfl | assumption) rfl rfl rfl ?_)
    refine xo_rd (rd_assign rfl) rfl ?_
    refine xo_rd (rd_assign rfl) rfl ?_
    refine xo_nil ?_
    refine xq_seq ?_
    refine xc_seq ?_
    refine xc_region ?_
    refine xo_rd (rd_move rfl) rfl ?_
  refine xo_ef rfl (ef_call rfl (XF.mono (XF.seg [_] x6.blks [] (xf_source_some x6 hx6 12 ⟨6, 12, 13, false⟩ (by rw [hs6]; rfl))) ?_))
  rintro v L' ⟨rfl, rfl⟩
  refine xo_seg [_] x6.blks [] ?_
  focus
    refine xo_rd (rd_move rfl) rfl ?_
    refine xo_rd (rd_extract rfl rfl) rfl ?_
    refine xo_rd (rd_extract rfl rfl) rfl ?_
    refine xo_rd (rd_extract rfl rfl) rfl ?_
    refine xo_ef rfl (ef_alloc fun r12 => ?_)
    refine xo_ef rfl (ef_storeB [] _ rfl rfl (by first | rfl | assumption) rfl rfl rfl ?_)
    refine xo_rd (rd_assign rfl) rfl ?_
    refine xo_rd (rd_assign rfl) rfl ?_
    refine xo_nil ?_
    refine xq_seq ?_
    refine xc_seq ?_
    refine xc_region ?_
    refine xo_rd (rd_move rfl) rfl ?_
  have el : leaveE x6.ms 5 = 0 ∧ leaveL x6.ms 5 = [⟨6, 12, 13, false⟩] := by rw [hs6]; decide
  refine xo_ef rfl (ef_call rfl (XF.mono (XF.seg [_, _] x6.blks [] (xf_leave x6 hx6 5)) ?_))
  rintro v L' ⟨rfl, x7, hx7, hc7, hm7, hs7, rfl⟩
  rw [el.1, ← hc7]
  rw [el.2] at hs7
  refine xo_seg [_, _] x7.blks [] ?_
  focus
    refine xo_rd (rd_assign rfl) rfl ?_
    refine xo_nil ?_
    refine xq_seq ?_
    refine xc_seq ?_
    refine xc_region ?_
    refine xo_rd (rd_move rfl) rfl ?_
  refine xo_ef rfl (ef_call rfl (XF.mono (XF.seg [_, _] x7.blks [] (xf_ids x7 hx7)) ?_))
  rintro v L' ⟨p, k, l, rfl, hO, rfl⟩
  have hl7 : x7.ms.length = 1 := by rw [hs7]; rfl
  have hi7 : x7.ms.map Mb.id = [6] := by rw [hs7]; rfl
  rw [hl7, hi7] at hO
  rw [hl7]
  refine xo_permT l (R' := _ :: _ :: (x7.blks ++ [])) (seg_perm [_, _] x7.blks []).symm ?_
  refine xo_seg [_, _] l (x7.blks ++ []) ?_
  obtain ⟨b, o, rfl, hc⟩ := (hO.rs (W := W) (L := l) (fun _ h => h)).at (j := 0) (by decide)
  focus
    refine xo_rd (rd_assign rfl) rfl ?_
    refine xo_nil ?_
    refine xq_seq ?_
    refine xc_seq ?_
    refine xc_region ?_
    refine xo_rd (rd_move rfl) rfl ?_
    refine xo_rd (rd_eql rfl rfl) rfl ?_
    refine xo_rd (rd_move rfl) rfl ?_
    refine xo_grd rfl rfl (rd_move rfl) rfl ?_
    refine xo_grd rfl rfl (rd_eql rfl rfl) rfl ?_
    refine xo_rd (rd_pickt rfl rfl) rfl ?_
    refine xo_rd (rd_move rfl) rfl ?_
    refine xo_grd rfl rfl (rd_move rfl) rfl ?_
    refine xo_grd rfl rfl (rd_eql rfl rfl) rfl ?_
    refine xo_rd (rd_pickt rfl rfl) rfl ?_
    refine xo_rd (rd_move rfl) rfl ?_
    refine xo_grd rfl rfl (rd_move rfl) rfl ?_
    refine xo_grd rfl rfl (rd_eql rfl rfl) rfl ?_
    refine xo_rd (rd_pickt rfl rfl) rfl ?_
    refine xo_rd (rd_move rfl) rfl ?_
    refine xo_grd rfl rfl (rd_move rfl) rfl ?_
    refine xo_grd rfl rfl (rd_eql rfl rfl) rfl ?_
    refine xo_rd (rd_pickt rfl rfl) rfl ?_
    refine xo_rd (rd_move rfl) rfl ?_
    refine xo_grd rfl rfl (rd_move rfl) rfl ?_
    refine xo_grd rfl rfl (rd_eql rfl rfl) rfl ?_
    refine xo_rd (rd_pickt rfl rfl) rfl ?_
    refine xo_rd (rd_move rfl) rfl ?_
    refine xo_grd rfl rfl (rd_fieldAddr rfl) rfl ?_
    refine xo_grd rfl rfl (rd_load1 rfl (Cl.o1 rfl)) rfl ?_
    refine xo_grd rfl rfl (rd_eql rfl rfl) rfl ?_
    refine xo_rd (rd_pickt rfl rfl) rfl ?_
    refine xo_rd (rd_move rfl) rfl ?_
    refine xo_grd rfl rfl (rd_move rfl) rfl ?_
    refine xo_grd rfl rfl (rd_not rfl) rfl ?_
    refine xo_rd (rd_pickt rfl rfl) rfl ?_
    refine xo_rd (rd_move rfl) rfl ?_
    refine xo_grd rfl rfl (rd_move rfl) rfl ?_
    refine xo_rd (rd_pickt rfl rfl) rfl ?_
    refine xo_rd (rd_move rfl) rfl ?_
    refine xo_grd rfl rfl (rd_fieldAddr rfl) rfl ?_
    refine xo_grd rfl rfl (rd_load1 rfl (Cl.o0 rfl)) rfl ?_
    refine xo_grd rfl rfl (rd_eql rfl rfl) rfl ?_
    refine xo_rd (rd_pickt rfl rfl) rfl ?_
    refine xo_rd (rd_move rfl) rfl ?_
    refine xo_grd rfl rfl (rd_move rfl) rfl ?_
    refine xo_rd (rd_pickt rfl rfl) rfl ?_
    refine xo_rd (rd_move rfl) rfl ?_
    refine xo_grd rfl rfl (rd_move rfl) rfl ?_
    refine xo_rd (rd_pickt rfl rfl) rfl ?_
    refine xo_rd (rd_move rfl) rfl ?_
    refine xo_grd rfl rfl (rd_move rfl) rfl ?_
    refine xo_grd rfl rfl (rd_eql rfl rfl) rfl ?_
    refine xo_rd (rd_pickt rfl rfl) rfl ?_
    refine xo_rd (rd_move rfl) rfl ?_
    refine xo_grd rfl rfl (rd_move rfl) rfl ?_
    refine xo_grd rfl rfl (rd_len rfl) rfl ?_
    refine xo_grd rfl rfl (rd_eql rfl rfl) rfl ?_
    refine xo_rd (rd_pickt rfl rfl) rfl ?_
    refine xo_rd (rd_move rfl) rfl ?_
    refine xo_grd rfl rfl (rd_move rfl) rfl ?_
    refine xo_grd rfl rfl (rd_indexAddr rfl rfl (by omega) (by omega)) rfl ?_
    refine xo_grd rfl rfl (rd_load1 rfl (hc 0 _ rfl).appl.app) rfl ?_
    refine xo_grd rfl rfl (rd_eql rfl rfl) rfl ?_
    refine xo_rd (rd_pickt rfl rfl) rfl ?_
    refine xo_rd (rd_assign rfl) rfl ?_
    refine xo_nil ?_
    refine xq_seq ?_
    refine xc_ret ?_
    exact xq_ret1 (.inl rfl) Try.results8 rfl (rfl)
  done
theorem xf_works {W : World} {L : List Blk} : XF Try.prog W 8 #[] L (fun v L' => v = .bool true ∧ L' = L) := xf_any fun W => xf_works0
theorem xf_RosterNone {W : World} (m : Mb) : XF Try.prog W 5 #[.agg m.enc.toArray] [] (fun v L' => v = .bool true) := by
  refine xf_enter (args := [_]) Try.func5 rfl Try.ntmps5 rfl ?_
  focus
    refine xc_seq ?_
    refine xc_region ?_
    refine xo_ef rfl (ef_box rfl fun r1 => ?_)
    refine xo_rd (rd_assign rfl) rfl ?_
    refine xo_nil ?_
    refine xq_seq ?_
    refine xc_seq ?_
    refine xc_region ?_
    refine xo_rd (rd_assign rfl) rfl ?_
    refine xo_nil ?_
    refine xq_seq ?_
    refine xc_seq ?_
    refine xc_region ?_
    refine xo_rd (rd_move rfl) rfl ?_
    refine xo_rd (rd_fieldAddr rfl) rfl ?_
    refine xo_rd (rd_load1 rfl (Cl.o0 rfl)) rfl ?_
    refine xo_ef rfl (ef_call rfl (XF.mono (xf_get_nil _) ?_))
    rintro v L' ⟨rfl, rfl⟩
    refine xo_rd (rd_move rfl) rfl ?_
    refine xo_rd (rd_extract rfl rfl) rfl ?_
    refine xo_rd (rd_extract rfl rfl) rfl ?_
    refine xo_ef rfl (ef_alloc fun r4 => ?_)
    refine xo_ef rfl (ef_storeB [] _ rfl rfl (by first | rfl | assumption) rfl rfl rfl ?_)
    refine xo_rd (rd_assign rfl) rfl ?_
    refine xo_nil ?_
    refine xq_seq ?_
    refine xc_seq ?_
    refine xc_region ?_
    refine xo_rd (rd_move rfl) rfl ?_
    refine xo_rd (rd_fieldAddr rfl) rfl ?_
    refine xo_rd (rd_load1 rfl (Cl.o1 rfl)) rfl ?_
    refine xo_ef rfl (ef_call rfl (XF.mono (xf_source_nil _) ?_))
    rintro v L' ⟨rfl, rfl⟩
    refine xo_rd (rd_move rfl) rfl ?_
    refine xo_rd (rd_extract rfl rfl) rfl ?_
    refine xo_rd (rd_extract rfl rfl) rfl ?_
    refine xo_rd (rd_extract rfl rfl) rfl ?_
    refine xo_ef rfl (ef_alloc fun r6 => ?_)
    refine xo_ef rfl (ef_storeB [] _ rfl rfl (by first | rfl | assumption) rfl rfl rfl ?_)
    refine xo_rd (rd_assign rfl) rfl ?_
    refine xo_rd (rd_assign rfl) rfl ?_
    refine xo_nil ?_
    refine xq_seq ?_
    refine xc_seq ?_
    refine xc_region ?_
    refine xo_rd (rd_move rfl) rfl ?_
    refine xo_rd (rd_loadB rfl Kn.o2 (by rfl)) rfl ?_
    refine xo_ef rfl (ef_call rfl (XF.mono (xf_join_nil m) ?_))
    rintro v L' ⟨rfl, rfl⟩
    refine xo_rd (rd_eql rfl rfl) rfl ?_
    refine xo_rd (rd_move rfl) rfl ?_
    refine xo_grd rfl rfl (rd_move rfl) rfl ?_
    refine xo_grd rfl rfl (rd_fieldAddr rfl) rfl ?_
    refine xo_grd rfl rfl (rd_load1 rfl (Cl.o2 rfl)) rfl ?_
    refine xo_gef rfl rfl rfl (ef_call rfl (XF.mono (xf_leave_nil _) ?_))
    rintro v L' ⟨rfl, rfl⟩
    refine xo_grd rfl rfl (rd_eql rfl rfl) rfl ?_
    refine xo_rd (rd_pickt rfl rfl) rfl ?_
    refine xo_rd (rd_move rfl) rfl ?_
    refine xo_grd rfl rfl (rd_loadB rfl Kn.o1 (by rfl)) rfl ?_
    refine xo_grd rfl rfl (rd_build rfl rfl rfl) rfl ?_
    refine xo_grd rfl rfl (rd_eqMb31 (a := ⟨0, 0, 0, false⟩) (b := ⟨0, 0, 0, false⟩) rfl rfl) rfl ?_
    refine xo_rd (rd_pickt rfl rfl) rfl ?_
    refine xo_rd (rd_move rfl) rfl ?_
    refine xo_grd rfl rfl (rd_move rfl) rfl ?_
    refine xo_grd rfl rfl (rd_not rfl) rfl ?_
    refine xo_rd (rd_pickt rfl rfl) rfl ?_
    refine xo_rd (rd_move rfl) rfl ?_
    refine xo_grd rfl rfl (rd_loadB rfl Kn.o0 (by rfl)) rfl ?_
    refine xo_grd rfl rfl (rd_build rfl rfl rfl) rfl ?_
    refine xo_grd rfl rfl (rd_eqMb31 (a := ⟨0, 0, 0, false⟩) (b := ⟨0, 0, 0, false⟩) rfl rfl) rfl ?_
    refine xo_rd (rd_pickt rfl rfl) rfl ?_
    refine xo_rd (rd_move rfl) rfl ?_
    refine xo_grd rfl rfl (rd_move rfl) rfl ?_
    refine xo_grd rfl rfl (rd_not rfl) rfl ?_
    refine xo_rd (rd_pickt rfl rfl) rfl ?_
    refine xo_rd (rd_move rfl) rfl ?_
    refine xo_grd rfl rfl (rd_move rfl) rfl ?_
    refine xo_grd rfl rfl (rd_not rfl) rfl ?_
    refine xo_rd (rd_pickt rfl rfl) rfl ?_
    refine xo_rd (rd_move rfl) rfl ?_
    refine xo_grd rfl rfl (rd_move rfl) rfl ?_
    refine xo_gef rfl rfl rfl (ef_call rfl (XF.mono (xf_ids_nil) ?_))
    rintro v L' ⟨rfl, rfl⟩
    refine xo_grd rfl rfl (rd_len rfl) rfl ?_
    refine xo_grd rfl rfl (rd_eql rfl rfl) rfl ?_
    refine xo_rd (rd_pickt rfl rfl) rfl ?_
    refine xo_rd (rd_move rfl) rfl ?_
    refine xo_grd rfl rfl (rd_move rfl) rfl ?_
    refine xo_gef rfl rfl rfl (ef_call rfl (XF.mono (xf_all_nil) ?_))
    rintro v L' ⟨rfl, rfl⟩
    refine xo_grd rfl rfl (rd_len rfl) rfl ?_
    refine xo_grd rfl rfl (rd_eql rfl rfl) rfl ?_
    refine xo_rd (rd_pickt rfl rfl) rfl ?_
    refine xo_rd (rd_move rfl) rfl ?_
    refine xo_grd rfl rfl (rd_move rfl) rfl ?_
    refine xo_gef rfl rfl rfl (ef_call rfl (XF.mono (xf_len_nil) ?_))
    rintro v L' ⟨rfl, rfl⟩
    refine xo_grd rfl rfl (rd_eql rfl rfl) rfl ?_
    refine xo_rd (rd_pickt rfl rfl) rfl ?_
    refine xo_rd (rd_move rfl) rfl ?_
    refine xo_gef rfl rfl rfl (ef_call rfl (XF.mono (xf_works) ?_))
    rintro v L' ⟨rfl, rfl⟩
    refine xo_rd (rd_pickt rfl rfl) rfl ?_
    refine xo_rd (rd_assign rfl) rfl ?_
    refine xo_nil ?_
    refine xq_seq ?_
    refine xc_ret ?_
    exact xq_ret1 (.inl rfl) Try.results5 rfl (rfl)
end Go.Proofs.Ytginfcoaaioaeaa.X
