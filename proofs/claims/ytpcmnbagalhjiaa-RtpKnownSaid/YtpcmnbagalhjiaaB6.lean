/-
  RtpPuts: a walk of my own.
-/
import Derived.Test.YtpcmnbagalhjiaaB5
namespace Go.Proofs.Ytpcmnbagalhjiaa.X
open Go Go.RowKit
set_option linter.unusedVariables false
set_option linter.unusedSimpArgs false
theorem xf_fewB {W : World} {L : List Blk} (q : Pk) (b : Bool) (hb : decide (q.cs.length ≤ 20 ∧ q.ex.length ≤ 400 ∧ q.pl.length ≤ 400) = b) (p1 p2 p3 : Option Addr) (c1 c2 c3 : Nat) :
    XF Try.prog W 17 #[.agg (q.enc (.slice p1 q.cs.length c1) (.slice p2 q.ex.length c2) (.slice p3 q.pl.length c3)).toArray] L (fun v L' => v = .bool b ∧ L' = L) :=
  (xf_few q p1 p2 p3 c1 c2 c3).mono fun v L' h => ⟨by rw [h.1, hb], h.2⟩
theorem xf_rightB {W : World} {L : List Blk} (q : Pk) (b : Bool) (hb : decide q.Right = b) (p1 p2 p3 : Option Addr) (c1 c2 c3 : Nat) (b1 : q.cs.length ≤ 1000000) (b2 : q.ex.length ≤ 1000000) :
    XF Try.prog W 21 #[.agg (q.enc (.slice p1 q.cs.length c1) (.slice p2 q.ex.length c2) (.slice p3 q.pl.length c3)).toArray] L (fun v L' => v = .bool b ∧ L' = L) :=
  (xf_right q p1 p2 p3 c1 c2 c3 b1 b2).mono fun v L' h => ⟨by rw [h.1, hb], h.2⟩
theorem xf_rrightB {W : World} {L : List Blk} (q : Pk) (b : Bool) (hb : decide q.Right = b) (p1 p2 p3 : Option Addr) (c1 c2 c3 : Nat) (b1 : q.cs.length ≤ 1000000) (b2 : q.ex.length ≤ 1000000) :
    XF Try.prog W 22 #[.agg (q.enc (.slice p1 q.cs.length c1) (.slice p2 q.ex.length c2) (.slice p3 q.pl.length c3)).toArray] L (fun v L' => v = .bool b ∧ L' = L) :=
  (xf_rright q p1 p2 p3 c1 c2 c3 b1 b2).mono fun v L' h => ⟨by rw [h.1, hb], h.2⟩
theorem xf_sameB {W : World} {L : List Blk} (a b : Pk) (r : Bool) (hr : decide (a = b) = r) (p1 p2 p3 q1 q2 q3 : Option Addr) (c1 c2 c3 d1 d2 d3 : Nat) (h1 : Rs W L p1 (ints .u32 a.cs)) (h2 : Rs W L p2 (ints .u8 a.ex)) (h3 : Rs W L p3 (ints .u8 a.pl)) (g1 : Rs W L q1 (ints .u32 b.cs)) (g2 : Rs W L q2 (ints .u8 b.ex)) (g3 : Rs W L q3 (ints .u8 b.pl)) (ha : a.Rg) (hb : b.Rg) (b1 : a.cs.length ≤ 1000000) :
    XF Try.prog W 25 #[.agg (a.enc (.slice p1 a.cs.length c1) (.slice p2 a.ex.length c2) (.slice p3 a.pl.length c3)).toArray, .agg (b.enc (.slice q1 b.cs.length d1) (.slice q2 b.ex.length d2) (.slice q3 b.pl.length d3)).toArray] L (fun v L' => v = .bool r ∧ L' = L) :=
  (xf_same a b p1 p2 p3 q1 q2 q3 c1 c2 c3 d1 d2 d3 h1 h2 h3 g1 g2 g3 ha hb b1).mono fun v L' h => ⟨by rw [h.1, hr], h.2⟩
theorem xf_rsameB {W : World} {L : List Blk} (a b : Pk) (r : Bool) (hr : decide (a = b) = r) (p1 p2 p3 q1 q2 q3 : Option Addr) (c1 c2 c3 d1 d2 d3 : Nat) (h1 : Rs W L p1 (ints .u32 a.cs)) (h2 : Rs W L p2 (ints .u8 a.ex)) (h3 : Rs W L p3 (ints .u8 a.pl)) (g1 : Rs W L q1 (ints .u32 b.cs)) (g2 : Rs W L q2 (ints .u8 b.ex)) (g3 : Rs W L q3 (ints .u8 b.pl)) (b1 : a.cs.length ≤ 1000000) (b2 : a.ex.length ≤ 1000000) (b3 : a.pl.length ≤ 1000000) :
    XF Try.prog W 11 #[.agg (a.enc (.slice p1 a.cs.length c1) (.slice p2 a.ex.length c2) (.slice p3 a.pl.length c3)).toArray, .agg (b.enc (.slice q1 b.cs.length d1) (.slice q2 b.ex.length d2) (.slice q3 b.pl.length d3)).toArray] L (fun v L' => v = .bool r ∧ L' = L) :=
  (xf_rsame a b p1 p2 p3 q1 q2 q3 c1 c2 c3 d1 d2 d3 h1 h2 h3 g1 g2 g3 b1 b2 b3).mono fun v L' h => ⟨by rw [h.1, hr], h.2⟩
set_option maxHeartbeats 4000000 in
theorem xf_RtpPuts {W : World} (q o : Pk) (p1 p2 p3 o1 o2 o3 : Option Addr) (c1 c2 c3 d1 d2 d3 : Nat) (h1 : Rs W [] p1 (ints .u32 q.cs)) (h2 : Rs W [] p2 (ints .u8 q.ex)) (h3 : Rs W [] p3 (ints .u8 q.pl)) (g1 : Rs W [] o1 (ints .u32 o.cs)) (g2 : Rs W [] o2 (ints .u8 o.ex)) (g3 : Rs W [] o3 (ints .u8 o.pl)) (hg : q.Rg) (ho : o.Rg) :
    XF Try.prog W 4 #[.agg (q.enc (.slice p1 q.cs.length c1) (.slice p2 q.ex.length c2) (.slice p3 q.pl.length c3)).toArray, .agg (o.enc (.slice o1 o.cs.length d1) (.slice o2 o.ex.length d2) (.slice o3 o.pl.length d3)).toArray] [] (fun v L' => v = .bool true) := by
  refine xf_enter (args := [_, _]) Try.func4 rfl Try.ntmps4 rfl ?_
  have h1' : ∀ L, Rs W L p1 (ints .u32 q.cs) := fun L => h1.nilL
  have h2' : ∀ L, Rs W L p2 (ints .u8 q.ex) := fun L => h2.nilL
  have h3' : ∀ L, Rs W L p3 (ints .u8 q.pl) := fun L => h3.nilL
  have g1' : ∀ L, Rs W L o1 (ints .u32 o.cs) := fun L => g1.nilL
  have g2' : ∀ L, Rs W L o2 (ints .u8 o.ex) := fun L => g2.nilL
  have g3' : ∀ L, Rs W L o3 (ints .u8 o.pl) := fun L => g3.nilL
  obtain ⟨fb, hfb⟩ : ∃ b : Bool, decide (q.cs.length ≤ 20 ∧ q.ex.length ≤ 400 ∧ q.pl.length ≤ 400) = b := ⟨_, rfl⟩
  obtain ⟨gb, hgb⟩ : ∃ b : Bool, decide (o.cs.length ≤ 20 ∧ o.ex.length ≤ 400 ∧ o.pl.length ≤ 400) = b := ⟨_, rfl⟩
  obtain ⟨rb, hrb⟩ : ∃ b : Bool, decide q.Right = b := ⟨_, rfl⟩
  obtain ⟨sb, hsb⟩ : ∃ b : Bool, decide (q = o) = b := ⟨_, rfl⟩
  obtain ⟨⟨out, e⟩, hput⟩ : ∃ z, putR q = z := ⟨_, rfl⟩
  focus
    refine xc_seq ?_
    refine xc_region ?_
    refine xo_ef rfl (ef_box rfl fun r2 => ?_)
    refine xo_ef rfl (ef_box rfl fun r3 => ?_)
    refine xo_rd (rd_assign rfl) rfl ?_
    refine xo_nil ?_
    refine xq_seq ?_
    refine xc_seq ?_
    refine xc_seq ?_
    refine xc_region ?_
    refine xo_rd (rd_loadB rfl Kn.o1 (by rfl)) rfl ?_
    refine xo_ef rfl (ef_call rfl (XF.mono (xf_fewB q fb hfb p1 p2 p3 c1 c2 c3) ?_))
    rintro v L' ⟨rfl, rfl⟩
    refine xo_rd (rd_not rfl) rfl ?_
    refine xo_rd (rd_move rfl) rfl ?_
    refine xo_split 14 rfl (fun hh1 => ?_) (fun hh1 => ?_)
    refine xo_gskip rfl rfl rfl rfl ?_
    refine xo_gskip rfl rfl rfl rfl ?_
    refine xo_gskip rfl rfl rfl rfl ?_
    refine xo_rd (rd_pickt rfl rfl) rfl ?_
    refine xo_nil ?_
    refine xq_seq ?_
    refine xc_condt rfl ?_
    refine xc_seq ?_
    refine xc_region ?_
    refine xo_ef rfl (ef_call rfl (XF.mono (xf_any (fun W => xf_works)) ?_))
    rintro v L' ⟨rfl, rfl⟩
    refine xo_rd (rd_assign rfl) rfl ?_
    refine xo_nil ?_
    refine xq_seq ?_
    refine xc_ret ?_
    refine xq_then_ret ?_
    exact xq_ret1 (.inl rfl) Try.results4 rfl (rfl)
    refine xo_grd rfl rfl (rd_loadB rfl Kn.o0 (by rfl)) rfl ?_
    refine xo_gef rfl rfl rfl (ef_call rfl (XF.mono (xf_fewB o gb hgb o1 o2 o3 d1 d2 d3) ?_))
    rintro v L' ⟨rfl, rfl⟩
    refine xo_grd rfl rfl (rd_not rfl) rfl ?_
    refine xo_rd (rd_pickf rfl rfl) rfl ?_
    refine xo_nil ?_
    refine xq_seq ?_
    refine xc_cond rfl (fun hh2 => ?_) (fun hh2 => ?_)
    refine xc_seq ?_
    refine xc_region ?_
    refine xo_ef rfl (ef_call rfl (XF.mono (xf_any (fun W => xf_works)) ?_))
    rintro v L' ⟨rfl, rfl⟩
    refine xo_rd (rd_assign rfl) rfl ?_
    refine xo_nil ?_
    refine xq_seq ?_
    refine xc_ret ?_
    refine xq_then_ret ?_
    exact xq_ret1 (.inl rfl) Try.results4 rfl (rfl)
    refine xc_skip ?_
    refine xq_seq ?_
  have e1 : fb = true := by cases fb <;> simp_all
  have e2 : gb = true := by cases gb <;> simp_all
  subst e1; subst e2
  have hf := of_decide_eq_true hfb
  have hgf := of_decide_eq_true hgb
  have hol : out.length ≤ 1000000 := by
    have hz : (putR q).1 = out := by rw [hput]
    rw [← hz]
    unfold putR
    split
    · rename_i hR
      have := putL_len q hg.pd.1 hR.2.2.2.2
      have hp := hg.pd.2
      unfold Pk.size at this
      show (putL q).length ≤ 1000000
      split at this <;> omega
    · exact Nat.zero_le _
  focus
    refine xc_seq ?_
    refine xc_region ?_
    refine xo_rd (rd_loadB rfl Kn.o1 (by rfl)) rfl ?_
    refine xo_ef rfl (ef_call rfl (XF.mono (xf_packet2 q p1 p2 p3 c1 c2 c3 (h1' _) (h2' _) (h3' _) (by omega) (by omega) (by omega)) ?_))
    rintro v L' ⟨s1, k1, s2, k2, s3, k3, w1, w2, w3, rfl, hw1, hw2, hw3, rfl⟩
    refine xo_perm (perm_end4 w1 w2 w3 _) ?_
    refine xo_ef rfl (ef_alloc fun r5 => ?_)
    refine xo_ef rfl (ef_storeB [] _ rfl rfl (by first | rfl | assumption) rfl rfl rfl ?_)
    refine xo_nil ?_
    refine xq_seq ?_
    refine xc_seq ?_
    refine xc_region ?_
    refine xo_rd (rd_loadB rfl Kn.o0 (by rfl)) rfl ?_
    refine xo_ef rfl (ef_call rfl (XF.mono (xf_rput2 q out e hput s1 s2 s3 k1 k2 k3 (hw1.rs (by intro z hz; simp [hz])) (hw2.rs (by intro z hz; simp [hz])) (hw3.rs (by intro z hz; simp [hz])) hg (by omega) (by omega) (by omega)) ?_))
    rintro v L' ⟨so, ko, lo, rfl, hOo, rfl⟩
    refine xo_perm List.perm_append_comm ?_
    refine xo_rd (rd_move rfl) rfl ?_
    refine xo_rd (rd_extract rfl rfl) rfl ?_
    refine xo_rd (rd_extract rfl rfl) rfl ?_
    refine xo_rd (rd_assign rfl) rfl ?_
    refine xo_rd (rd_assign rfl) rfl ?_
    refine xo_nil ?_
    refine xq_seq ?_
    refine xc_seq ?_
    refine xc_seq ?_
    refine xc_region ?_
    refine xo_rd (rd_assign rfl) rfl ?_
    refine xo_nil ?_
    refine xq_seq ?_
    refine xc_block ?_
  refine xc_loopI (ι := Nat) (fun i => i ≤ 2) (fun i => 2 - i) (fun _ => ((r5, .cells (q.enc (.slice s1 q.cs.length k1) (.slice s2 q.ex.length k2) (.slice s3 q.pl.length k3)).toArray 29 (0, 0)) :: (r3, .cells (o.enc (.slice o1 o.cs.length d1) (.slice o2 o.ex.length d2) (.slice o3 o.pl.length d3)).toArray 33 (0, 0)) :: (r2, .cells (q.enc (.slice p1 q.cs.length c1) (.slice p2 q.ex.length c2) (.slice p3 q.pl.length c3)).toArray 33 (0, 0)) :: ((w1 ++ (w2 ++ w3)) ++ lo))) (fun i => [(2, .pointer (some ⟨r2, 0, none⟩)), (3, .pointer (some ⟨r3, 0, none⟩)), (4, .bool false), (5, .pointer (some ⟨r5, 0, none⟩)), (6, .slice so out.length ko), (7, .int .i64 e), (8, .int .i64 i)]) 0 (by omega) rfl (by repeat (first | exact keep_nil | refine keep_cons rfl ?_)) ?_
  intro i hi
  focus
    refine xc_seq ?_
    refine xc_seq ?_
    refine xc_region ?_
    refine xo_rd (rd_move rfl) rfl ?_
    refine xo_rd (rd_lss rfl rfl) rfl ?_
    refine xo_nil ?_
    refine xq_seq ?_
    refine xc_dec rfl (fun hi1 => ?_) (fun hi1 => ?_)
    refine xc_skip ?_
    refine xq_seq ?_
    refine xc_seq ?_
    refine xc_block ?_
    refine xc_seq ?_
    refine xc_region ?_
    refine xo_rd (rd_loadB rfl Kn.o2 (by rfl)) rfl ?_
    refine xo_ef rfl (ef_call rfl (XF.mono (xf_put2 q out e hput p1 p2 p3 c1 c2 c3 (h1' _) (h2' _) (h3' _) hg (by omega) (by omega) (by omega)) ?_))
    rintro v L' ⟨sp, kp, lp, rfl, hOp, rfl⟩
    refine xo_rd (rd_move rfl) rfl ?_
    refine xo_rd (rd_extract rfl rfl) rfl ?_
    refine xo_rd (rd_extract rfl rfl) rfl ?_
    refine xo_rd (rd_assign rfl) rfl ?_
    refine xo_rd (rd_assign rfl) rfl ?_
    refine xo_nil ?_
    refine xq_seq ?_
    refine xc_seq ?_
    refine xc_seq ?_
    refine xc_region ?_
    refine xo_rd (rd_move rfl) rfl ?_
    refine xo_rd (rd_move rfl) rfl ?_
    refine xo_rd (rd_neq rfl rfl) rfl ?_
    refine xo_rd (rd_move rfl) rfl ?_
    refine xo_ndec 39 rfl (fun h => absurd rfl h) (fun _ => ?_)
    refine xo_grd rfl rfl (rd_move rfl) rfl ?_
    refine xo_grd rfl rfl (rd_move rfl) rfl ?_
    refine xo_gef rfl rfl rfl (ef_call rfl (XF.mono (xf_samebytesT sp so out.length out.length kp ko out out rfl rfl rfl (hOp.rs (by intro z hz; simp [hz])) (hOo.rs (by intro z hz; simp [hz])) (by omega)) ?_))
    rintro v L' ⟨rfl, rfl⟩
    refine xo_grd rfl rfl (rd_not rfl) rfl ?_
    refine xo_rd (rd_pickf rfl rfl) rfl ?_
    refine xo_nil ?_
    refine xq_seq ?_
    refine xc_condf rfl ?_
    refine xc_skip ?_
    refine xq_seq ?_
    refine xc_region ?_
    refine xo_rd (rd_move rfl) rfl ?_
    refine xo_ef rfl (ef_call rfl (XF.mono (xf_spoil (.slice sp out.length kp) out.length (ints .u8 out) lp hOp (by omega)) ?_))
    rintro v L' ⟨rfl, xs', lp', _, rfl⟩
    refine xo_nil ?_
    refine xq_block ?_
    refine xq_seq ?_
    refine xc_region ?_
    refine xo_rd (rd_move rfl) rfl ?_
    refine xo_rd (rd_addn rfl rfl (by omega) (by omega)) rfl ?_
    refine xo_rd (rd_assign rfl) rfl ?_
    refine xo_nil ?_
    rotate_left
    refine xc_exit ?_
    refine xq_then_exit ?_
    refine xq_then_exit ?_
    refine xq_block_hit ?_
    refine xq_seq ?_
    refine xc_seq ?_
    refine xc_drawM [0, 1, 0, 6, 10, 24, 32, 96, 32, 416, 672, 1056, 2560, 4096, 4096, 28672, 4096, 4096, 167936, 331776, 561152, 1052672, 2621440, 4194304, 4194304, 29360128, 37748736, 100663296, 134217728, 402653184, 134217728, 1744830464, 2281701376, 6442450944, 8589934592, 25769803776, 68719476735] [0, 1, 0, 6, 10, 24, 32, 96, 32, 416, 672, 1056, 2560, 4096, 4096, 28672, 4096, 4096, 167936, 331776, 561152, 1052672, 2621440, 4194304, 4194304, 29360128, 37748736, 100663296, 134217728, 402653184, 134217728, 1744830464, 2281701376, 6442450944, 8589934592, 25769803776, 68719476735] ([(r5, .cells (q.enc (.slice s1 q.cs.length k1) (.slice s2 q.ex.length k2) (.slice s3 q.pl.length k3)).toArray 29 (0, 0)), (r3, .cells (o.enc (.slice o1 o.cs.length d1) (.slice o2 o.ex.length d2) (.slice o3 o.pl.length d3)).toArray 33 (0, 0)), (r2, .cells (q.enc (.slice p1 q.cs.length c1) (.slice p2 q.ex.length c2) (.slice p3 q.pl.length c3)).toArray 33 (0, 0))]) (by kernel_rfl) (by kernel_rfl) (by kernel_rfl) ?_
    refine xm_take 0 (m' := 1) rfl (by kernel_rfl) (by first | exact Sb.refl | exact Sb.nil | (repeat (first | exact Sb.nil | exact Sb.refl | exact Sb.app0 | apply Sb.keep | apply Sb.keepApp | apply Sb.cons | apply Sb.app))) (rd_loadB rfl Kn.o2 (by rfl)) rfl (by kernel_rfl) ?_
    refine xm_take 2 (m' := 5) rfl (by kernel_rfl) (by first | exact Sb.refl | exact Sb.nil | (repeat (first | exact Sb.nil | exact Sb.refl | exact Sb.app0 | apply Sb.keep | apply Sb.keepApp | apply Sb.cons | apply Sb.app))) (rd_loadB rfl Kn.o0 (by rfl)) rfl (by kernel_rfl) ?_
    refine xm_one 1 (m' := 7) rfl (by kernel_rfl) rfl (by kernel_rfl) (ef_call rfl (XF.mono (xf_rightB q rb hrb p1 p2 p3 c1 c2 c3 (by omega) (by omega)) ?_))
    rintro v L' ⟨rfl, rfl⟩
    refine ⟨(by first | exact Sb.refl | exact Sb.nil | (repeat (first | exact Sb.nil | exact Sb.refl | exact Sb.app0 | apply Sb.keep | apply Sb.keepApp | apply Sb.cons | apply Sb.app))), ?_⟩
    refine xm_one 3 (m' := 15) rfl (by kernel_rfl) rfl (by kernel_rfl) (ef_call rfl (XF.mono (xf_rrightB q rb hrb s1 s2 s3 k1 k2 k3 (by omega) (by omega)) ?_))
    rintro v L' ⟨rfl, rfl⟩
    refine ⟨(by first | exact Sb.refl | exact Sb.nil | (repeat (first | exact Sb.nil | exact Sb.refl | exact Sb.app0 | apply Sb.keep | apply Sb.keepApp | apply Sb.cons | apply Sb.app))), ?_⟩
    refine xm_take 4 (m' := 31) rfl (by kernel_rfl) (by first | exact Sb.refl | exact Sb.nil | (repeat (first | exact Sb.nil | exact Sb.refl | exact Sb.app0 | apply Sb.keep | apply Sb.keepApp | apply Sb.cons | apply Sb.app))) (rd_cast (v' := .bool true) (rd_eqb rfl rfl) (congrArg Value.bool (beq_self_eq_true _))) rfl (by kernel_rfl) ?_
    refine xm_take 5 (m' := 63) rfl (by kernel_rfl) (by first | exact Sb.refl | exact Sb.nil | (repeat (first | exact Sb.nil | exact Sb.refl | exact Sb.app0 | apply Sb.keep | apply Sb.keepApp | apply Sb.cons | apply Sb.app))) (rd_move rfl) rfl (by kernel_rfl) ?_
    refine xm_gtake 6 (m' := 127) rfl (by kernel_rfl) (by first | exact Sb.refl | exact Sb.nil | (repeat (first | exact Sb.nil | exact Sb.refl | exact Sb.app0 | apply Sb.keep | apply Sb.keepApp | apply Sb.cons | apply Sb.app))) rfl rfl (rd_loadB rfl Kn.o2 (by rfl)) rfl (by kernel_rfl) ?_
    refine xm_gtake 8 (m' := 383) rfl (by kernel_rfl) (by first | exact Sb.refl | exact Sb.nil | (repeat (first | exact Sb.nil | exact Sb.refl | exact Sb.app0 | apply Sb.keep | apply Sb.keepApp | apply Sb.cons | apply Sb.app))) rfl rfl (rd_loadB rfl Kn.o0 (by rfl)) rfl (by kernel_rfl) ?_
    refine xm_gone 7 (m' := 511) rfl (by kernel_rfl) rfl rfl rfl (by kernel_rfl) (ef_call rfl (XF.mono (xf_size q p1 p2 p3 c1 c2 c3 (by omega) (by omega) (by omega) hg.pd) ?_))
    rintro v L' ⟨rfl, rfl⟩
    refine ⟨(by first | exact Sb.refl | exact Sb.nil | (repeat (first | exact Sb.nil | exact Sb.refl | exact Sb.app0 | apply Sb.keep | apply Sb.keepApp | apply Sb.cons | apply Sb.app))), ?_⟩
    refine xm_gone 9 (m' := 1023) rfl (by kernel_rfl) rfl rfl rfl (by kernel_rfl) (ef_call rfl (XF.mono (xf_rsize q s1 s2 s3 k1 k2 k3 (by omega) (by omega) (by omega) hg.pd) ?_))
    rintro v L' ⟨rfl, rfl⟩
    refine ⟨(by first | exact Sb.refl | exact Sb.nil | (repeat (first | exact Sb.nil | exact Sb.refl | exact Sb.app0 | apply Sb.keep | apply Sb.keepApp | apply Sb.cons | apply Sb.app))), ?_⟩
    refine xm_gtake 10 (m' := 2047) rfl (by kernel_rfl) (by first | exact Sb.refl | exact Sb.nil | (repeat (first | exact Sb.nil | exact Sb.refl | exact Sb.app0 | apply Sb.keep | apply Sb.keepApp | apply Sb.cons | apply Sb.app))) rfl rfl (rd_eql rfl rfl) rfl (by kernel_rfl) ?_
    refine xm_take 11 (m' := 4095) rfl (by kernel_rfl) (by first | exact Sb.refl | exact Sb.nil | (repeat (first | exact Sb.nil | exact Sb.refl | exact Sb.app0 | apply Sb.keep | apply Sb.keepApp | apply Sb.cons | apply Sb.app))) (rd_pickt rfl rfl) rfl (by kernel_rfl) ?_
    refine xm_take 12 (m' := 8191) rfl (by kernel_rfl) (by first | exact Sb.refl | exact Sb.nil | (repeat (first | exact Sb.nil | exact Sb.refl | exact Sb.app0 | apply Sb.keep | apply Sb.keepApp | apply Sb.cons | apply Sb.app))) (rd_move rfl) rfl (by kernel_rfl) ?_
    refine xm_dec 59 rfl (fun _ => ?_) (fun h => absurd rfl h)
    refine xm_gtake 13 (m' := 16383) rfl (by kernel_rfl) (by first | exact Sb.refl | exact Sb.nil | (repeat (first | exact Sb.nil | exact Sb.refl | exact Sb.app0 | apply Sb.keep | apply Sb.keepApp | apply Sb.cons | apply Sb.app))) rfl rfl (rd_loadB rfl Kn.o2 (by rfl)) rfl (by kernel_rfl) ?_
    refine xm_gtake 14 (m' := 32767) rfl (by kernel_rfl) (by first | exact Sb.refl | exact Sb.nil | (repeat (first | exact Sb.nil | exact Sb.refl | exact Sb.app0 | apply Sb.keep | apply Sb.keepApp | apply Sb.cons | apply Sb.app))) rfl rfl (rd_loadB rfl Kn.o1 (by rfl)) rfl (by kernel_rfl) ?_
    refine xm_gtake 16 (m' := 98303) rfl (by kernel_rfl) (by first | exact Sb.refl | exact Sb.nil | (repeat (first | exact Sb.nil | exact Sb.refl | exact Sb.app0 | apply Sb.keep | apply Sb.keepApp | apply Sb.cons | apply Sb.app))) rfl rfl (rd_loadB rfl Kn.o0 (by rfl)) rfl (by kernel_rfl) ?_
    refine xm_gtake 17 (m' := 229375) rfl (by kernel_rfl) (by first | exact Sb.refl | exact Sb.nil | (repeat (first | exact Sb.nil | exact Sb.refl | exact Sb.app0 | apply Sb.keep | apply Sb.keepApp | apply Sb.cons | apply Sb.app))) rfl rfl (rd_loadB rfl Kn.o1 (by rfl)) rfl (by kernel_rfl) ?_
    refine xm_gone 15 (m' := 262143) rfl (by kernel_rfl) rfl rfl rfl (by kernel_rfl) (ef_call rfl (XF.mono (xf_sameB q o sb hsb p1 p2 p3 o1 o2 o3 c1 c2 c3 d1 d2 d3 (h1' _) (h2' _) (h3' _) (g1' _) (g2' _) (g3' _) hg ho (by omega)) ?_))
    rintro v L' ⟨rfl, rfl⟩
    refine ⟨(by first | exact Sb.refl | exact Sb.nil | (repeat (first | exact Sb.nil | exact Sb.refl | exact Sb.app0 | apply Sb.keep | apply Sb.keepApp | apply Sb.cons | apply Sb.app))), ?_⟩
    refine xm_gone 18 (m' := 524287) rfl (by kernel_rfl) rfl rfl rfl (by kernel_rfl) (ef_call rfl (XF.mono (xf_packet2 o o1 o2 o3 d1 d2 d3 (g1' _) (g2' _) (g3' _) (by omega) (by omega) (by omega)) ?_))
    rintro v L' ⟨y1, z1, y2, z2, y3, z3, x1, x2, x3, rfl, hx1, hx2, hx3, rfl⟩
    refine xmx_perm (perm_end4 x1 x2 x3 _) ?_
    refine ⟨(by first | exact Sb.refl | exact Sb.nil | (repeat (first | exact Sb.nil | exact Sb.refl | exact Sb.app0 | apply Sb.keep | apply Sb.keepApp | apply Sb.cons | apply Sb.app))), ?_⟩
    refine xm_gone 19 (m' := 1048575) rfl (by kernel_rfl) rfl rfl rfl (by kernel_rfl) (ef_call rfl (XF.mono (xf_rsameB q o sb hsb s1 s2 s3 y1 y2 y3 k1 k2 k3 z1 z2 z3 (hw1.rs (by intro z hz; simp [hz])) (hw2.rs (by intro z hz; simp [hz])) (hw3.rs (by intro z hz; simp [hz])) (hx1.rs (by intro z hz; simp [hz])) (hx2.rs (by intro z hz; simp [hz])) (hx3.rs (by intro z hz; simp [hz])) (by omega) (by omega) (by omega)) ?_))
    rintro v L' ⟨rfl, rfl⟩
    refine ⟨(by first | exact Sb.refl | exact Sb.nil | (repeat (first | exact Sb.nil | exact Sb.refl | exact Sb.app0 | apply Sb.keep | apply Sb.keepApp | apply Sb.cons | apply Sb.app))), ?_⟩
    refine xm_gtake 20 (m' := 2097151) rfl (by kernel_rfl) (by first | exact Sb.refl | exact Sb.nil | (repeat (first | exact Sb.nil | exact Sb.refl | exact Sb.app0 | apply Sb.keep | apply Sb.keepApp | apply Sb.cons | apply Sb.app))) rfl rfl (rd_cast (v' := .bool true) (rd_eqb rfl rfl) (congrArg Value.bool (beq_self_eq_true _))) rfl (by kernel_rfl) ?_
    refine xm_take 21 (m' := 4194303) rfl (by kernel_rfl) (by first | exact Sb.refl | exact Sb.nil | (repeat (first | exact Sb.nil | exact Sb.refl | exact Sb.app0 | apply Sb.keep | apply Sb.keepApp | apply Sb.cons | apply Sb.app))) (rd_pickt rfl rfl) rfl (by kernel_rfl) ?_
    refine xm_take 22 (m' := 8388607) rfl (by kernel_rfl) (by first | exact Sb.refl | exact Sb.nil | (repeat (first | exact Sb.nil | exact Sb.refl | exact Sb.app0 | apply Sb.keep | apply Sb.keepApp | apply Sb.cons | apply Sb.app))) (rd_move rfl) rfl (by kernel_rfl) ?_
    refine xm_gtake 23 (m' := 16777215) rfl (by kernel_rfl) (by first | exact Sb.refl | exact Sb.nil | (repeat (first | exact Sb.nil | exact Sb.refl | exact Sb.app0 | apply Sb.keep | apply Sb.keepApp | apply Sb.cons | apply Sb.app))) rfl rfl (rd_loadB rfl Kn.o2 (by rfl)) rfl (by kernel_rfl) ?_
    refine xm_gtake 24 (m' := 33554431) rfl (by kernel_rfl) (by first | exact Sb.refl | exact Sb.nil | (repeat (first | exact Sb.nil | exact Sb.refl | exact Sb.app0 | apply Sb.keep | apply Sb.keepApp | apply Sb.cons | apply Sb.app))) rfl rfl (rd_loadB rfl Kn.o2 (by rfl)) rfl (by kernel_rfl) ?_
    refine xm_gone 25 (m' := 67108863) rfl (by kernel_rfl) rfl rfl rfl (by kernel_rfl) (ef_call rfl (XF.mono (xf_sameB q q true (decide_eq_true rfl) p1 p2 p3 p1 p2 p3 c1 c2 c3 c1 c2 c3 (h1' _) (h2' _) (h3' _) (h1' _) (h2' _) (h3' _) hg hg (by omega)) ?_))
    rintro v L' ⟨rfl, rfl⟩
    refine ⟨(by first | exact Sb.refl | exact Sb.nil | (repeat (first | exact Sb.nil | exact Sb.refl | exact Sb.app0 | apply Sb.keep | apply Sb.keepApp | apply Sb.cons | apply Sb.app))), ?_⟩
    refine xm_take 26 (m' := 134217727) rfl (by kernel_rfl) (by first | exact Sb.refl | exact Sb.nil | (repeat (first | exact Sb.nil | exact Sb.refl | exact Sb.app0 | apply Sb.keep | apply Sb.keepApp | apply Sb.cons | apply Sb.app))) (rd_pickt rfl rfl) rfl (by kernel_rfl) ?_
    refine xm_take 27 (m' := 268435455) rfl (by kernel_rfl) (by first | exact Sb.refl | exact Sb.nil | (repeat (first | exact Sb.nil | exact Sb.refl | exact Sb.app0 | apply Sb.keep | apply Sb.keepApp | apply Sb.cons | apply Sb.app))) (rd_move rfl) rfl (by kernel_rfl) ?_
    refine xm_gtake 28 (m' := 536870911) rfl (by kernel_rfl) (by first | exact Sb.refl | exact Sb.nil | (repeat (first | exact Sb.nil | exact Sb.refl | exact Sb.app0 | apply Sb.keep | apply Sb.keepApp | apply Sb.cons | apply Sb.app))) rfl rfl (rd_loadB rfl Kn.o2 (by rfl)) rfl (by kernel_rfl) ?_
    refine xm_gtake 30 (m' := 1610612735) rfl (by kernel_rfl) (by first | exact Sb.refl | exact Sb.nil | (repeat (first | exact Sb.nil | exact Sb.refl | exact Sb.app0 | apply Sb.keep | apply Sb.keepApp | apply Sb.cons | apply Sb.app))) rfl rfl (rd_loadB rfl Kn.o0 (by rfl)) rfl (by kernel_rfl) ?_
    refine xm_gone 29 (m' := 2147483647) rfl (by kernel_rfl) rfl rfl rfl (by kernel_rfl) (ef_call rfl (XF.mono (xf_packet2 q p1 p2 p3 c1 c2 c3 (h1' _) (h2' _) (h3' _) (by omega) (by omega) (by omega)) ?_))
    rintro v L' ⟨y4, z4, y5, z5, y6, z6, x4, x5, x6, rfl, hx4, hx5, hx6, rfl⟩
    refine xmx_perm (perm_end4 x4 x5 x6 _) ?_
    refine ⟨(by first | exact Sb.refl | exact Sb.nil | (repeat (first | exact Sb.nil | exact Sb.refl | exact Sb.app0 | apply Sb.keep | apply Sb.keepApp | apply Sb.cons | apply Sb.app))), ?_⟩
    refine xm_gone 31 (m' := 4294967295) rfl (by kernel_rfl) rfl rfl rfl (by kernel_rfl) (ef_call rfl (XF.mono (xf_rsameB q q true (decide_eq_true rfl) y4 y5 y6 s1 s2 s3 z4 z5 z6 k1 k2 k3 (hx4.rs (by intro z hz; simp [hz])) (hx5.rs (by intro z hz; simp [hz])) (hx6.rs (by intro z hz; simp [hz])) (hw1.rs (by intro z hz; simp [hz])) (hw2.rs (by intro z hz; simp [hz])) (hw3.rs (by intro z hz; simp [hz])) (by omega) (by omega) (by omega)) ?_))
    rintro v L' ⟨rfl, rfl⟩
    refine ⟨(by first | exact Sb.refl | exact Sb.nil | (repeat (first | exact Sb.nil | exact Sb.refl | exact Sb.app0 | apply Sb.keep | apply Sb.keepApp | apply Sb.cons | apply Sb.app))), ?_⟩
    refine xm_take 32 (m' := 8589934591) rfl (by kernel_rfl) (by first | exact Sb.refl | exact Sb.nil | (repeat (first | exact Sb.nil | exact Sb.refl | exact Sb.app0 | apply Sb.keep | apply Sb.keepApp | apply Sb.cons | apply Sb.app))) (rd_pickt rfl rfl) rfl (by kernel_rfl) ?_
    refine xm_take 33 (m' := 17179869183) rfl (by kernel_rfl) (by first | exact Sb.refl | exact Sb.nil | (repeat (first | exact Sb.nil | exact Sb.refl | exact Sb.app0 | apply Sb.keep | apply Sb.keepApp | apply Sb.cons | apply Sb.app))) (rd_move rfl) rfl (by kernel_rfl) ?_
    refine xm_gone 34 (m' := 34359738367) rfl (by kernel_rfl) rfl rfl rfl (by kernel_rfl) (ef_call rfl (XF.mono (xf_any (fun W => xf_works)) ?_))
    rintro v L' ⟨rfl, rfl⟩
    refine ⟨(by first | exact Sb.refl | exact Sb.nil | (repeat (first | exact Sb.nil | exact Sb.refl | exact Sb.app0 | apply Sb.keep | apply Sb.keepApp | apply Sb.cons | apply Sb.app))), ?_⟩
    refine xm_take 35 (m' := 68719476735) rfl (by kernel_rfl) (by first | exact Sb.refl | exact Sb.nil | (repeat (first | exact Sb.nil | exact Sb.refl | exact Sb.app0 | apply Sb.keep | apply Sb.keepApp | apply Sb.cons | apply Sb.app))) (rd_pickt rfl rfl) rfl (by kernel_rfl) ?_
    refine xm_take 36 (m' := 137438953471) rfl (by kernel_rfl) (by first | exact Sb.refl | exact Sb.nil | (repeat (first | exact Sb.nil | exact Sb.refl | exact Sb.app0 | apply Sb.keep | apply Sb.keepApp | apply Sb.cons | apply Sb.app))) (rd_assign rfl) rfl (by kernel_rfl) ?_
    refine xm_done (by kernel_rfl) ?_
    refine xq_seq ?_
    refine xc_ret ?_
    exact xq_ret1 (.inl rfl) Try.results4 rfl (rfl)
  exact xq_sub (List.sublist_append_right _ _) (xq_roundI (i + 1) (by omega) (by omega) rfl (by repeat (first | exact keep_nil | refine keep_cons rfl ?_)))
end Go.Proofs.Ytpcmnbagalhjiaa.X
