/-
  Packets are copied, compared, written over: walks of my own.
-/
import Derived.Test.YtpcmnbagalhjiaaA5
namespace Go.Proofs.Ytpcmnbagalhjiaa.X
open Go Go.RowKit
set_option linter.unusedVariables false
set_option linter.unusedSimpArgs false
theorem xf_isRtcp {W : World} {L : List Blk} (p : Option Addr) (m c : Nat) (bs : List Int) (hx : bs.length = m) (hr : Rs W L p (ints .u8 bs)) (hm : m ≤ 1000000000) : XF Try.prog W 13 #[.slice p m c] L (fun v L' => v = .bool (decide (2 ≤ m ∧ 192 ≤ bs.getD 1 0 ∧ bs.getD 1 0 ≤ 223)) ∧ L' = L) := by
  refine xf_enter (args := [_]) Try.func13 rfl Try.ntmps13 rfl ?_
  by_cases h : 2 ≤ m
  · obtain ⟨b, o, rfl, hc⟩ := hr.int (i := 1) (by omega)
    have hg : bs.getD 1 0 = bs[1] := getD_get (by omega)
    rw [hg]
    generalize bs[1] = z at *
    focus
      refine xc_seq ?_
      refine xc_region ?_
      refine xo_rd (rd_assign rfl) rfl ?_
      refine xo_nil ?_
      refine xq_seq ?_
      refine xc_seq ?_
      refine xc_region ?_
      refine xo_rd (rd_move rfl) rfl ?_
      refine xo_rd (rd_len rfl) rfl ?_
      refine xo_rd (rd_geq rfl rfl) rfl ?_
      refine xo_rd (rd_move rfl) rfl ?_
      refine xo_dec 6 rfl (fun hw1 => ?_) (fun hw1 => (by exfalso; omega))
      refine xo_grd rfl rfl (rd_move rfl) rfl ?_
      refine xo_grd rfl rfl (rd_indexAddr rfl rfl (by omega) (by omega)) rfl ?_
      refine xo_grd rfl rfl (rd_load1 rfl hc) rfl ?_
      refine xo_grd rfl rfl (rd_geq rfl rfl) rfl ?_
      refine xo_rd (rd_pickt rfl rfl) rfl ?_
      refine xo_rd (rd_move rfl) rfl ?_
      refine xo_dec 12 rfl (fun hw2 => ?_) (fun hw2 => ?_)
      refine xo_grd rfl rfl (rd_move rfl) rfl ?_
      refine xo_grd rfl rfl (rd_indexAddr rfl rfl (by omega) (by omega)) rfl ?_
      refine xo_grd rfl rfl (rd_load1 rfl hc) rfl ?_
      refine xo_grd rfl rfl (rd_leq rfl rfl) rfl ?_
      refine xo_rd (rd_pickt rfl rfl) rfl ?_
      refine xo_rd (rd_assign rfl) rfl ?_
      refine xo_nil ?_
      refine xq_seq ?_
      refine xc_ret ?_
      rotate_left
      refine xo_gskip rfl rfl rfl rfl ?_
      refine xo_gskip rfl rfl rfl rfl ?_
      refine xo_gskip rfl rfl rfl rfl ?_
      refine xo_gskip rfl rfl rfl rfl ?_
      refine xo_rd (rd_pickf rfl rfl) rfl ?_
      refine xo_rd (rd_assign rfl) rfl ?_
      refine xo_nil ?_
      refine xq_seq ?_
      refine xc_ret ?_
      rotate_left
    all_goals refine xq_ret1 (.inl rfl) Try.results13 rfl ⟨?_, rfl⟩
    all_goals first
      | (congr 1; exact (decide_eq_false (by omega)).symm)
      | (congr 1; exact (decide_eq_true (by omega)).symm)
      | (congr 1; rw [decide_eq_decide]; omega)
  · focus
      refine xc_seq ?_
      refine xc_region ?_
      refine xo_rd (rd_assign rfl) rfl ?_
      refine xo_nil ?_
      refine xq_seq ?_
      refine xc_seq ?_
      refine xc_region ?_
      refine xo_rd (rd_move rfl) rfl ?_
      refine xo_rd (rd_len rfl) rfl ?_
      refine xo_rd (rd_geq rfl rfl) rfl ?_
      refine xo_rd (rd_move rfl) rfl ?_
      refine xo_dec 6 rfl (fun h1 => (by exfalso; omega)) (fun h1 => ?_)
      refine xo_gskip rfl rfl rfl rfl ?_
      refine xo_gskip rfl rfl rfl rfl ?_
      refine xo_gskip rfl rfl rfl rfl ?_
      refine xo_gskip rfl rfl rfl rfl ?_
      refine xo_rd (rd_pickf rfl rfl) rfl ?_
      refine xo_rd (rd_move rfl) rfl ?_
      refine xo_gskip rfl rfl rfl rfl ?_
      refine xo_gskip rfl rfl rfl rfl ?_
      refine xo_gskip rfl rfl rfl rfl ?_
      refine xo_gskip rfl rfl rfl rfl ?_
      refine xo_rd (rd_pickf rfl rfl) rfl ?_
      refine xo_rd (rd_assign rfl) rfl ?_
      refine xo_nil ?_
      refine xq_seq ?_
      refine xc_ret ?_
    refine xq_ret1 (.inl rfl) Try.results13 rfl ⟨?_, rfl⟩
    congr 1; exact (decide_eq_false (by omega)).symm
theorem xf_risRtcp {W : World} {L : List Blk} (p : Option Addr) (m c : Nat) (bs : List Int) (hx : bs.length = m) (hr : Rs W L p (ints .u8 bs)) (hm : m ≤ 1000000000) : XF Try.prog W 14 #[.slice p m c] L (fun v L' => v = .bool (decide (2 ≤ m ∧ 192 ≤ bs.getD 1 0 ∧ bs.getD 1 0 ≤ 223)) ∧ L' = L) := by
  refine xf_enter (args := [_]) Try.func14 rfl Try.ntmps14 rfl ?_
  by_cases h : 2 ≤ m
  · obtain ⟨b, o, rfl, hc⟩ := hr.int (i := 1) (by omega)
    have hg : bs.getD 1 0 = bs[1] := getD_get (by omega)
    rw [hg]
    generalize bs[1] = z at *
    focus
      refine xc_seq ?_
      refine xc_region ?_
      refine xo_rd (rd_assign rfl) rfl ?_
      refine xo_nil ?_
      refine xq_seq ?_
      refine xc_seq ?_
      refine xc_region ?_
      refine xo_rd (rd_move rfl) rfl ?_
      refine xo_rd (rd_len rfl) rfl ?_
      refine xo_rd (rd_geq rfl rfl) rfl ?_
      refine xo_rd (rd_move rfl) rfl ?_
      refine xo_dec 6 rfl (fun hw1 => ?_) (fun hw1 => (by exfalso; omega))
      refine xo_grd rfl rfl (rd_move rfl) rfl ?_
      refine xo_grd rfl rfl (rd_indexAddr rfl rfl (by omega) (by omega)) rfl ?_
      refine xo_grd rfl rfl (rd_load1 rfl hc) rfl ?_
      refine xo_grd rfl rfl (rd_geq rfl rfl) rfl ?_
      refine xo_rd (rd_pickt rfl rfl) rfl ?_
      refine xo_rd (rd_move rfl) rfl ?_
      refine xo_dec 12 rfl (fun hw2 => ?_) (fun hw2 => ?_)
      refine xo_grd rfl rfl (rd_move rfl) rfl ?_
      refine xo_grd rfl rfl (rd_indexAddr rfl rfl (by omega) (by omega)) rfl ?_
      refine xo_grd rfl rfl (rd_load1 rfl hc) rfl ?_
      refine xo_grd rfl rfl (rd_leq rfl rfl) rfl ?_
      refine xo_rd (rd_pickt rfl rfl) rfl ?_
      refine xo_rd (rd_assign rfl) rfl ?_
      refine xo_nil ?_
      refine xq_seq ?_
      refine xc_ret ?_
      rotate_left
      refine xo_gskip rfl rfl rfl rfl ?_
      refine xo_gskip rfl rfl rfl rfl ?_
      refine xo_gskip rfl rfl rfl rfl ?_
      refine xo_gskip rfl rfl rfl rfl ?_
      refine xo_rd (rd_pickf rfl rfl) rfl ?_
      refine xo_rd (rd_assign rfl) rfl ?_
      refine xo_nil ?_
      refine xq_seq ?_
      refine xc_ret ?_
      rotate_left
    all_goals refine xq_ret1 (.inl rfl) Try.results14 rfl ⟨?_, rfl⟩
    all_goals first
      | (congr 1; exact (decide_eq_false (by omega)).symm)
      | (congr 1; exact (decide_eq_true (by omega)).symm)
      | (congr 1; rw [decide_eq_decide]; omega)
  · focus
      refine xc_seq ?_
      refine xc_region ?_
      refine xo_rd (rd_assign rfl) rfl ?_
      refine xo_nil ?_
      refine xq_seq ?_
      refine xc_seq ?_
      refine xc_region ?_
      refine xo_rd (rd_move rfl) rfl ?_
      refine xo_rd (rd_len rfl) rfl ?_
      refine xo_rd (rd_geq rfl rfl) rfl ?_
      refine xo_rd (rd_move rfl) rfl ?_
      refine xo_dec 6 rfl (fun h1 => (by exfalso; omega)) (fun h1 => ?_)
      refine xo_gskip rfl rfl rfl rfl ?_
      refine xo_gskip rfl rfl rfl rfl ?_
      refine xo_gskip rfl rfl rfl rfl ?_
      refine xo_gskip rfl rfl rfl rfl ?_
      refine xo_rd (rd_pickf rfl rfl) rfl ?_
      refine xo_rd (rd_move rfl) rfl ?_
      refine xo_gskip rfl rfl rfl rfl ?_
      refine xo_gskip rfl rfl rfl rfl ?_
      refine xo_gskip rfl rfl rfl rfl ?_
      refine xo_gskip rfl rfl rfl rfl ?_
      refine xo_rd (rd_pickf rfl rfl) rfl ?_
      refine xo_rd (rd_assign rfl) rfl ?_
      refine xo_nil ?_
      refine xq_seq ?_
      refine xc_ret ?_
    refine xq_ret1 (.inl rfl) Try.results14 rfl ⟨?_, rfl⟩
    congr 1; exact (decide_eq_false (by omega)).symm
set_option maxHeartbeats 2000000 in
theorem xf_packet {W : World} {L : List Blk} (q : Pk) (p1 p2 p3 : Option Addr) (c1 c2 c3 : Nat) (h1 : Rs W L p1 (ints .u32 q.cs)) (h2 : Rs W L p2 (ints .u8 q.ex)) (h3 : Rs W L p3 (ints .u8 q.pl)) (b1 : q.cs.length ≤ 1000000) (b2 : q.ex.length ≤ 1000000) (b3 : q.pl.length ≤ 1000000) :
    XF Try.prog W 12 #[.agg (q.enc (.slice p1 q.cs.length c1) (.slice p2 q.ex.length c2) (.slice p3 q.pl.length c3)).toArray] L (fun v L' => ∃ v1 v2 v3 l1 l2 l3, v = .agg (q.enc v1 v2 v3).toArray ∧ PkM q v1 v2 v3 l1 l2 l3 ∧ L' = l1 ++ (l2 ++ (l3 ++ L))) := by
  refine xf_enter (args := [_]) Try.func12 rfl Try.ntmps12 rfl ?_
  obtain ⟨mr, ty, sq, tm, ss, cs, hx, pf, ex, pl, pd⟩ := q
  dsimp only at h1 h2 h3 b1 b2 b3
  dsimp only [Pk.enc]
  focus
    refine xc_seq ?_
    refine xc_region ?_
    refine xo_ef rfl (ef_box rfl fun r1 => ?_)
    refine xo_ef rfl (ef_alloc fun r2 => ?_)
    refine xo_nil ?_
    refine xq_seq ?_
    refine xc_seq ?_
    refine xc_region ?_
    refine xo_rd (rd_assign rfl) rfl ?_
    refine xo_nil ?_
    refine xq_seq ?_
    refine xc_seq ?_
    refine xc_drawM [0, 1, 0, 4, 0, 16, 0, 64, 0, 256, 0, 0, 2048, 5120, 0, 16384, 0, 65536, 0, 262144, 532480, 0, 2097152, 5242880, 0, 16777216, 43164330, 134217727] [0, 1, 0, 4, 0, 16, 0, 64, 0, 256, 0, 0, 2048, 5120, 0, 16384, 0, 65536, 0, 262144, 532480, 0, 2097152, 5242880, 0, 16777216, 43164330, 134217727] ([(r1, .cells #[.bool mr, .int .u8 ty, .int .u16 sq, .int .u32 tm, .int .u32 ss, .slice p1 cs.length c1, .bool hx, .int .u16 pf, .slice p2 ex.length c2, .slice p3 pl.length c3, .int .u8 pd] 33 (0, 0))]) (by kernel_rfl) (by kernel_rfl) (by kernel_rfl) ?_
    refine xm_take 0 (m' := 1) rfl (by kernel_rfl) (by first | exact Sb.refl | exact Sb.nil | (repeat (first | exact Sb.nil | exact Sb.refl | exact Sb.app0 | apply Sb.keep | apply Sb.keepApp | apply Sb.cons | apply Sb.app))) (rd_fieldAddr rfl) rfl (by kernel_rfl) ?_
    refine xm_take 1 (m' := 3) rfl (by kernel_rfl) (by first | exact Sb.refl | exact Sb.nil | (repeat (first | exact Sb.nil | exact Sb.refl | exact Sb.app0 | apply Sb.keep | apply Sb.keepApp | apply Sb.cons | apply Sb.app))) (rd_load1 rfl (Cl.o0 rfl)) rfl (by kernel_rfl) ?_
    refine xm_take 2 (m' := 7) rfl (by kernel_rfl) (by first | exact Sb.refl | exact Sb.nil | (repeat (first | exact Sb.nil | exact Sb.refl | exact Sb.app0 | apply Sb.keep | apply Sb.keepApp | apply Sb.cons | apply Sb.app))) (rd_fieldAddr rfl) rfl (by kernel_rfl) ?_
    refine xm_take 3 (m' := 15) rfl (by kernel_rfl) (by first | exact Sb.refl | exact Sb.nil | (repeat (first | exact Sb.nil | exact Sb.refl | exact Sb.app0 | apply Sb.keep | apply Sb.keepApp | apply Sb.cons | apply Sb.app))) (rd_load1 rfl (Cl.o0 rfl)) rfl (by kernel_rfl) ?_
    refine xm_take 4 (m' := 31) rfl (by kernel_rfl) (by first | exact Sb.refl | exact Sb.nil | (repeat (first | exact Sb.nil | exact Sb.refl | exact Sb.app0 | apply Sb.keep | apply Sb.keepApp | apply Sb.cons | apply Sb.app))) (rd_fieldAddr rfl) rfl (by kernel_rfl) ?_
    refine xm_take 5 (m' := 63) rfl (by kernel_rfl) (by first | exact Sb.refl | exact Sb.nil | (repeat (first | exact Sb.nil | exact Sb.refl | exact Sb.app0 | apply Sb.keep | apply Sb.keepApp | apply Sb.cons | apply Sb.app))) (rd_load1 rfl (Cl.o0 rfl)) rfl (by kernel_rfl) ?_
    refine xm_take 6 (m' := 127) rfl (by kernel_rfl) (by first | exact Sb.refl | exact Sb.nil | (repeat (first | exact Sb.nil | exact Sb.refl | exact Sb.app0 | apply Sb.keep | apply Sb.keepApp | apply Sb.cons | apply Sb.app))) (rd_fieldAddr rfl) rfl (by kernel_rfl) ?_
    refine xm_take 7 (m' := 255) rfl (by kernel_rfl) (by first | exact Sb.refl | exact Sb.nil | (repeat (first | exact Sb.nil | exact Sb.refl | exact Sb.app0 | apply Sb.keep | apply Sb.keepApp | apply Sb.cons | apply Sb.app))) (rd_load1 rfl (Cl.o0 rfl)) rfl (by kernel_rfl) ?_
    refine xm_take 8 (m' := 511) rfl (by kernel_rfl) (by first | exact Sb.refl | exact Sb.nil | (repeat (first | exact Sb.nil | exact Sb.refl | exact Sb.app0 | apply Sb.keep | apply Sb.keepApp | apply Sb.cons | apply Sb.app))) (rd_fieldAddr rfl) rfl (by kernel_rfl) ?_
    refine xm_take 9 (m' := 1023) rfl (by kernel_rfl) (by first | exact Sb.refl | exact Sb.nil | (repeat (first | exact Sb.nil | exact Sb.refl | exact Sb.app0 | apply Sb.keep | apply Sb.keepApp | apply Sb.cons | apply Sb.app))) (rd_load1 rfl (Cl.o0 rfl)) rfl (by kernel_rfl) ?_
    refine xm_take 10 (m' := 2047) rfl (by kernel_rfl) (by first | exact Sb.refl | exact Sb.nil | (repeat (first | exact Sb.nil | exact Sb.refl | exact Sb.app0 | apply Sb.keep | apply Sb.keepApp | apply Sb.cons | apply Sb.app))) (rd_move rfl) rfl (by kernel_rfl) ?_
    refine xm_take 11 (m' := 4095) rfl (by kernel_rfl) (by first | exact Sb.refl | exact Sb.nil | (repeat (first | exact Sb.nil | exact Sb.refl | exact Sb.app0 | apply Sb.keep | apply Sb.keepApp | apply Sb.cons | apply Sb.app))) (rd_fieldAddr rfl) rfl (by kernel_rfl) ?_
    refine xm_take 12 (m' := 8191) rfl (by kernel_rfl) (by first | exact Sb.refl | exact Sb.nil | (repeat (first | exact Sb.nil | exact Sb.refl | exact Sb.app0 | apply Sb.keep | apply Sb.keepApp | apply Sb.cons | apply Sb.app))) (rd_load1 rfl (Cl.o0 rfl)) rfl (by kernel_rfl) ?_
    refine xm_take 14 (m' := 24575) rfl (by kernel_rfl) (by first | exact Sb.refl | exact Sb.nil | (repeat (first | exact Sb.nil | exact Sb.refl | exact Sb.app0 | apply Sb.keep | apply Sb.keepApp | apply Sb.cons | apply Sb.app))) (rd_fieldAddr rfl) rfl (by kernel_rfl) ?_
    refine xm_take 15 (m' := 57343) rfl (by kernel_rfl) (by first | exact Sb.refl | exact Sb.nil | (repeat (first | exact Sb.nil | exact Sb.refl | exact Sb.app0 | apply Sb.keep | apply Sb.keepApp | apply Sb.cons | apply Sb.app))) (rd_load1 rfl (Cl.o0 rfl)) rfl (by kernel_rfl) ?_
    refine xm_take 16 (m' := 122879) rfl (by kernel_rfl) (by first | exact Sb.refl | exact Sb.nil | (repeat (first | exact Sb.nil | exact Sb.refl | exact Sb.app0 | apply Sb.keep | apply Sb.keepApp | apply Sb.cons | apply Sb.app))) (rd_fieldAddr rfl) rfl (by kernel_rfl) ?_
    refine xm_take 17 (m' := 253951) rfl (by kernel_rfl) (by first | exact Sb.refl | exact Sb.nil | (repeat (first | exact Sb.nil | exact Sb.refl | exact Sb.app0 | apply Sb.keep | apply Sb.keepApp | apply Sb.cons | apply Sb.app))) (rd_load1 rfl (Cl.o0 rfl)) rfl (by kernel_rfl) ?_
    refine xm_take 18 (m' := 516095) rfl (by kernel_rfl) (by first | exact Sb.refl | exact Sb.nil | (repeat (first | exact Sb.nil | exact Sb.refl | exact Sb.app0 | apply Sb.keep | apply Sb.keepApp | apply Sb.cons | apply Sb.app))) (rd_fieldAddr rfl) rfl (by kernel_rfl) ?_
    refine xm_take 19 (m' := 1040383) rfl (by kernel_rfl) (by first | exact Sb.refl | exact Sb.nil | (repeat (first | exact Sb.nil | exact Sb.refl | exact Sb.app0 | apply Sb.keep | apply Sb.keepApp | apply Sb.cons | apply Sb.app))) (rd_load1 rfl (Cl.o0 rfl)) rfl (by kernel_rfl) ?_
    refine xm_take 21 (m' := 3137535) rfl (by kernel_rfl) (by first | exact Sb.refl | exact Sb.nil | (repeat (first | exact Sb.nil | exact Sb.refl | exact Sb.app0 | apply Sb.keep | apply Sb.keepApp | apply Sb.cons | apply Sb.app))) (rd_fieldAddr rfl) rfl (by kernel_rfl) ?_
    refine xm_take 22 (m' := 7331839) rfl (by kernel_rfl) (by first | exact Sb.refl | exact Sb.nil | (repeat (first | exact Sb.nil | exact Sb.refl | exact Sb.app0 | apply Sb.keep | apply Sb.keepApp | apply Sb.cons | apply Sb.app))) (rd_load1 rfl (Cl.o0 rfl)) rfl (by kernel_rfl) ?_
    refine xm_take 24 (m' := 24109055) rfl (by kernel_rfl) (by first | exact Sb.refl | exact Sb.nil | (repeat (first | exact Sb.nil | exact Sb.refl | exact Sb.app0 | apply Sb.keep | apply Sb.keepApp | apply Sb.cons | apply Sb.app))) (rd_fieldAddr rfl) rfl (by kernel_rfl) ?_
    refine xm_take 25 (m' := 57663487) rfl (by kernel_rfl) (by first | exact Sb.refl | exact Sb.nil | (repeat (first | exact Sb.nil | exact Sb.refl | exact Sb.app0 | apply Sb.keep | apply Sb.keepApp | apply Sb.cons | apply Sb.app))) (rd_load1 rfl (Cl.o0 rfl)) rfl (by kernel_rfl) ?_
    refine xm_one 13 (m' := 57671679) rfl (by kernel_rfl) rfl (by kernel_rfl) (ef_appendS [_, _] L [] (news := ints .u32 cs) rfl rfl SlO.nil rfl (h1.mono (by intro z hz; simp [hz])) (by rw [ints_len, Nat.mul_one]) (ints_one _ _) (by decide) (by omega) (by omega) fun q1 k1 l1 hO1 hk1 => ?_)
    refine ⟨(by first | exact Sb.refl | exact Sb.nil | (repeat (first | exact Sb.nil | exact Sb.refl | exact Sb.app0 | apply Sb.keep | apply Sb.keepApp | apply Sb.cons | apply Sb.app))), ?_⟩
    refine xm_one 20 (m' := 58720255) rfl (by kernel_rfl) rfl (by kernel_rfl) (ef_call rfl (XF.mono (xf_own p2 ex.length c2 (ints .u8 ex) (by rw [ints_len, Nat.mul_one]) (h2.mono (by intro z hz; simp [hz])) (ints_one _ _) (by omega)) ?_))
    rintro v L' ⟨q2, k2, l2, rfl, hO2, _, rfl⟩
    refine xmx_perm List.perm_append_comm ?_
    refine ⟨(by first | exact Sb.refl | exact Sb.nil | (repeat (first | exact Sb.nil | exact Sb.refl | exact Sb.app0 | apply Sb.keep | apply Sb.keepApp | apply Sb.cons | apply Sb.app))), ?_⟩
    refine xm_one 23 (m' := 67108863) rfl (by kernel_rfl) rfl (by kernel_rfl) (ef_call rfl (XF.mono (xf_own p3 pl.length c3 (ints .u8 pl) (by rw [ints_len, Nat.mul_one]) (h3.mono (by intro z hz; simp [hz])) (ints_one _ _) (by omega)) ?_))
    rintro v L' ⟨q3, k3, l3, rfl, hO3, _, rfl⟩
    refine xmx_perm List.perm_append_comm ?_
    refine ⟨(by first | exact Sb.refl | exact Sb.nil | (repeat (first | exact Sb.nil | exact Sb.refl | exact Sb.app0 | apply Sb.keep | apply Sb.keepApp | apply Sb.cons | apply Sb.app))), ?_⟩
    refine xm_take 26 (m' := 134217727) rfl (by kernel_rfl) (by first | exact Sb.refl | exact Sb.nil | (repeat (first | exact Sb.nil | exact Sb.refl | exact Sb.app0 | apply Sb.keep | apply Sb.keepApp | apply Sb.cons | apply Sb.app))) (rd_build rfl rfl rfl) rfl (by kernel_rfl) ?_
    refine xm_one 27 (m' := 268435455) rfl (by kernel_rfl) rfl (by kernel_rfl) (ef_storeB [] _ rfl rfl (by first | rfl | assumption) rfl rfl rfl ?_)
    refine ⟨(by first | exact Sb.refl | exact Sb.nil | (repeat (first | exact Sb.nil | exact Sb.refl | exact Sb.app0 | apply Sb.keep | apply Sb.keepApp | apply Sb.cons | apply Sb.app))), ?_⟩
    refine xm_done (by kernel_rfl) ?_
    refine xq_seq ?_
    refine xc_ret ?_
  rw [Nat.zero_add] at hO1
  rw [List.nil_append] at hO1
  refine xq_perm (L' := (r2, .cells ([.bool mr, .int .u8 ty, .int .u16 sq, .int .u32 tm, .int .u32 ss, .slice q1 cs.length k1, .bool hx, .int .u16 pf, .slice q2 ex.length k2, .slice q3 pl.length k3, .int .u8 pd] : List Value).toArray 29 (0, 0)) :: (r1, .cells #[.bool mr, .int .u8 ty, .int .u16 sq, .int .u32 tm, .int .u32 ss, .slice p1 cs.length c1, .bool hx, .int .u16 pf, .slice p2 ex.length c2, .slice p3 pl.length c3, .int .u8 pd] 33 (0, 0)) :: (l1 ++ (l2 ++ (l3 ++ L)))) ?_ ?_
  · rw [Nat.zero_add]
    refine .cons _ (.cons _ ?_)
    exact (by classical exact List.perm_iff_count.2 fun a => by simp only [List.append_eq, List.count_append, List.count_cons, List.count_nil, List.cons_append, List.nil_append, List.flatMap_append, List.flatMap_cons, List.flatMap_nil, List.append_nil]; omega)
  · exact xq_retB (.inl rfl) Try.results12 rfl Kn.o0 rfl ((List.sublist_cons_self _ _).trans (List.sublist_cons_self _ _)) ⟨_, _, _, l1, l2, l3, rfl, ⟨hO1, hO2, hO3⟩, rfl⟩
end Go.Proofs.Ytpcmnbagalhjiaa.X
