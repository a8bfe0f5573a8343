/-
  RtpReads: a walk of my own.
-/
import Derived.Test.YtpcmnbagalhjiaaB4
namespace Go.Proofs.Ytpcmnbagalhjiaa.X
open Go Go.RowKit
set_option linter.unusedVariables false
set_option linter.unusedSimpArgs false
theorem parseE_ex {f : Int} {xs : List Int} {hx : Bool} {pf : Int} {ex r : List Int} (h : parseE f xs = some (hx, pf, ex, r)) : ex.length ≤ xs.length := by
  unfold parseE at h
  split at h
  · split at h
    · cases h
    · split at h
      · cases h
      · simp only [Option.some.injEq, Prod.mk.injEq] at h
        rw [← h.2.2.1]; simp; omega
  · simp only [Option.some.injEq, Prod.mk.injEq] at h
    rw [← h.2.2.1]; exact Nat.zero_le _
theorem parseP_pl {f : Int} {r pl : List Int} {pd : Int} (h : parseP f r = some (pl, pd)) : pl.length ≤ r.length := by
  unfold parseP at h
  split at h
  · split at h
    · cases h
    · simp only [Option.some.injEq, Prod.mk.injEq] at h
      rw [← h.1]; simp; omega
  · simp only [Option.some.injEq, Prod.mk.injEq] at h
    rw [← h.1]; exact Nat.le_refl _
theorem parseL_len (bs : List Int) : (parseL bs).2.cs.length ≤ bs.length ∧ (parseL bs).2.ex.length ≤ bs.length ∧ (parseL bs).2.pl.length ≤ bs.length := by
  unfold parseL
  split
  · exact ⟨Nat.zero_le _, Nat.zero_le _, Nat.zero_le _⟩
  · split
    · exact ⟨Nat.zero_le _, Nat.zero_le _, Nat.zero_le _⟩
    · split
      · exact ⟨Nat.zero_le _, Nat.zero_le _, Nat.zero_le _⟩
      · rename_i h1 h2 h3
        split
        · exact ⟨Nat.zero_le _, Nat.zero_le _, Nat.zero_le _⟩
        · rename_i hE
          split
          · exact ⟨Nat.zero_le _, Nat.zero_le _, Nat.zero_le _⟩
          · rename_i hP
            have a1 := parseE_ex hE
            have a2 := parseE_len hE
            have a3 := parseP_pl hP
            simp only [List.length_drop] at a1 a2 h3
            refine ⟨?_, ?_, ?_⟩
            · dsimp only; rw [chunks_len]; omega
            · dsimp only; omega
            · dsimp only; omega
theorem xf_rsameT {W : World} {L : List Blk} (a : Pk) (p1 p2 p3 q1 q2 q3 : Option Addr) (c1 c2 c3 d1 d2 d3 : Nat) (h1 : Rs W L p1 (ints .u32 a.cs)) (h2 : Rs W L p2 (ints .u8 a.ex)) (h3 : Rs W L p3 (ints .u8 a.pl)) (g1 : Rs W L q1 (ints .u32 a.cs)) (g2 : Rs W L q2 (ints .u8 a.ex)) (g3 : Rs W L q3 (ints .u8 a.pl)) (b1 : a.cs.length ≤ 1000000) (b2 : a.ex.length ≤ 1000000) (b3 : a.pl.length ≤ 1000000) :
    XF Try.prog W 11 #[.agg (a.enc (.slice p1 a.cs.length c1) (.slice p2 a.ex.length c2) (.slice p3 a.pl.length c3)).toArray, .agg (a.enc (.slice q1 a.cs.length d1) (.slice q2 a.ex.length d2) (.slice q3 a.pl.length d3)).toArray] L (fun v L' => v = .bool true ∧ L' = L) :=
  (xf_rsame a a p1 p2 p3 q1 q2 q3 c1 c2 c3 d1 d2 d3 h1 h2 h3 g1 g2 g3 b1 b2 b3).mono fun v L' h => ⟨by rw [h.1, decide_eq_true rfl], h.2⟩
theorem xf_risRtcpB {W : World} {L : List Blk} (p : Option Addr) (m c : Nat) (bs : List Int) (b : Bool) (hb : decide (2 ≤ m ∧ 192 ≤ bs.getD 1 0 ∧ bs.getD 1 0 ≤ 223) = b) (hx : bs.length = m) (hr : Rs W L p (ints .u8 bs)) (hm : m ≤ 1000000000) : XF Try.prog W 14 #[.slice p m c] L (fun v L' => v = .bool b ∧ L' = L) :=
  (xf_risRtcp p m c bs hx hr hm).mono fun v L' h => ⟨by rw [h.1, hb], h.2⟩
set_option maxHeartbeats 4000000 in
theorem xf_RtpReads {W : World} (p : Option Addr) (m c : Nat) (bs : List Int) (hx : bs.length = m) (hr : Rs W [] p (ints .u8 bs)) (hb : ∀ x, x ∈ bs → By x) (hc : m ≤ c) (hm : m ≤ 9223372036854775807) : XF Try.prog W 3 #[.slice p m c] [] (fun v L' => v = .bool true) := by
  refine xf_enter (args := [_]) Try.func3 rfl Try.ntmps3 rfl ?_
  have hr' : ∀ L, Rs W L p (ints .u8 bs) := fun L => hr.nilL
  focus
    refine xc_seq ?_
    refine xc_region ?_
    refine xo_rd (rd_assign rfl) rfl ?_
    refine xo_nil ?_
    refine xq_seq ?_
    refine xc_seq ?_
    refine xc_seq ?_
    refine xc_region ?_
    refine xo_rd (rd_move rfl) rfl ?_
    refine xo_rd (rd_len rfl) rfl ?_
    refine xo_rd (rd_gtr rfl rfl) rfl ?_
    refine xo_nil ?_
    refine xq_seq ?_
    refine xc_dec rfl (fun hh1 => ?_) (fun hh1 => ?_)
    refine xc_seq ?_
    refine xc_region ?_
    refine xo_ef rfl (ef_call rfl (XF.mono (xf_any (fun W => xf_works)) ?_))
    rintro v L' ⟨rfl, rfl⟩
    refine xo_rd (rd_assign rfl) rfl ?_
    refine xo_nil ?_
    refine xq_seq ?_
    refine xc_ret ?_
    refine xq_then_ret ?_
    exact xq_ret1 (.inl rfl) Try.results3 rfl (rfl)
    refine xc_skip ?_
    refine xq_seq ?_
  obtain ⟨⟨e, q⟩, heq⟩ : ∃ z, parseL bs = z := ⟨_, rfl⟩
  have hlen := parseL_len bs
  rw [heq] at hlen
  dsimp only at hlen
  obtain ⟨rb, hrb⟩ : ∃ b : Bool, decide (2 ≤ m ∧ 192 ≤ bs.getD 1 0 ∧ bs.getD 1 0 ≤ 223) = b := ⟨_, rfl⟩
  focus
    refine xc_seq ?_
    refine xc_region ?_
    refine xo_rd (rd_move rfl) rfl ?_
    refine xo_ef rfl (ef_call rfl (XF.mono (xf_own p m c (ints .u8 bs) (by rw [ints_len, hx, Nat.mul_one]) (hr' _) (ints_one _ _) (by omega)) ?_))
    rintro v L' ⟨po, co, lo, rfl, hOo, hco, rfl⟩
    refine xo_rd (rd_assign rfl) rfl ?_
    refine xo_nil ?_
    refine xq_seq ?_
    refine xc_seq ?_
    refine xc_region ?_
    refine xo_rd (rd_move rfl) rfl ?_
    refine xo_ef rfl (ef_call rfl (XF.mono (xf_rparse2 po m co bs e _ heq hx (hOo.rs (by intro z hz; simp [hz])) hb hco (by omega)) ?_))
    rintro v L' ⟨s1, k1, s2, k2, s3, k3, w1, w2, w3, rfl, hw1, hw2, hw3, rfl⟩
    refine xo_perm (perm_end4 w1 w2 w3 _) ?_
    refine xo_rd (rd_move rfl) rfl ?_
    refine xo_rd (rd_extract rfl rfl) rfl ?_
    refine xo_rd (rd_extract rfl rfl) rfl ?_
    refine xo_ef rfl (ef_alloc fun r4 => ?_)
    refine xo_ef rfl (ef_storeB [] _ rfl rfl (by first | rfl | assumption) rfl rfl rfl ?_)
    refine xo_rd (rd_assign rfl) rfl ?_
    refine xo_nil ?_
    refine xq_seq ?_
    refine xc_seq ?_
    refine xc_seq ?_
    refine xc_region ?_
    refine xo_rd (rd_assign rfl) rfl ?_
    refine xo_nil ?_
    refine xq_seq ?_
    refine xc_block ?_
  refine xc_loopI (ι := Nat) (fun i => i ≤ 2) (fun i => 2 - i) (fun _ => (r4, .cells (q.enc (.slice s1 q.cs.length k1) (.slice s2 q.ex.length k2) (.slice s3 q.pl.length k3)).toArray 29 (0, 0)) :: (lo ++ (w1 ++ (w2 ++ w3)))) (fun i => [(0, .slice p m c), (3, .slice po m co), (4, .pointer (some ⟨r4, 0, none⟩)), (5, .int .i64 e), (6, .int .i64 i)]) 0 (by omega) (by rw [List.append_nil]; rfl) (by repeat (first | exact keep_nil | refine keep_cons rfl ?_)) ?_
  intro i hi
  focus
    refine xc_seq ?_
    refine xc_seq ?_
    refine xc_region ?_
    refine xo_rd (rd_move rfl) rfl ?_
    refine xo_rd (rd_lss rfl rfl) rfl ?_
    refine xo_nil ?_
    refine xq_seq ?_
    refine xc_dec rfl (fun hi1 => ?_) (fun hi1 => ?_)
    refine xc_skip ?_
    refine xq_seq ?_
    refine xc_seq ?_
    refine xc_block ?_
    refine xc_seq ?_
    refine xc_region ?_
    refine xo_rd (rd_move rfl) rfl ?_
    refine xo_ef rfl (ef_call rfl (XF.mono (xf_parse2 p m c bs e q heq hx (hr' _) hb hc (by omega)) ?_))
    rintro v L' ⟨t1, j1, t2, j2, t3, j3, u1, u2, u3, rfl, hu1, hu2, hu3, rfl⟩
    refine xo_perm (perm_end4 u1 u2 u3 _) ?_
    refine xo_rd (rd_move rfl) rfl ?_
    refine xo_rd (rd_extract rfl rfl) rfl ?_
    refine xo_rd (rd_extract rfl rfl) rfl ?_
    refine xo_ef rfl (ef_alloc fun r7 => ?_)
    refine xo_ef rfl (ef_storeB [] _ rfl rfl (by first | rfl | assumption) rfl rfl rfl ?_)
    refine xo_rd (rd_assign rfl) rfl ?_
    refine xo_nil ?_
    refine xq_seq ?_
    rotate_left
    refine xc_exit ?_
    refine xq_then_exit ?_
    refine xq_then_exit ?_
    refine xq_block_hit ?_
    refine xq_seq ?_
    refine xc_seq ?_
    refine xc_region ?_
    refine xo_rd (rd_move rfl) rfl ?_
    refine xo_rd (rd_move rfl) rfl ?_
    rotate_left
  · skip
    focus
      refine xc_seq ?_
      refine xc_seq ?_
      refine xc_drawM [0, 0, 3, 4, 8, 24, 8, 104, 136, 264, 640, 1024, 3072, 1024, 13312, 21504, 33792] [0, 0, 3, 4, 8, 24, 8, 104, 136, 264, 640, 1024, 3072, 1024, 13312, 21504, 33792] ([(r7, .cells (q.enc (.slice t1 q.cs.length j1) (.slice t2 q.ex.length j2) (.slice t3 q.pl.length j3)).toArray 33 (0, 0)), (r4, .cells (q.enc (.slice s1 q.cs.length k1) (.slice s2 q.ex.length k2) (.slice s3 q.pl.length k3)).toArray 29 (0, 0))]) (by kernel_rfl) (by kernel_rfl) (by kernel_rfl) ?_
      refine xm_take 0 (m' := 1) rfl (by kernel_rfl) (by first | exact Sb.refl | exact Sb.nil | (repeat (first | exact Sb.nil | exact Sb.refl | exact Sb.app0 | apply Sb.keep | apply Sb.keepApp | apply Sb.cons | apply Sb.app))) (rd_move rfl) rfl (by kernel_rfl) ?_
      refine xm_take 1 (m' := 3) rfl (by kernel_rfl) (by first | exact Sb.refl | exact Sb.nil | (repeat (first | exact Sb.nil | exact Sb.refl | exact Sb.app0 | apply Sb.keep | apply Sb.keepApp | apply Sb.cons | apply Sb.app))) (rd_move rfl) rfl (by kernel_rfl) ?_
      refine xm_take 2 (m' := 7) rfl (by kernel_rfl) (by first | exact Sb.refl | exact Sb.nil | (repeat (first | exact Sb.nil | exact Sb.refl | exact Sb.app0 | apply Sb.keep | apply Sb.keepApp | apply Sb.cons | apply Sb.app))) (rd_neq rfl rfl) rfl (by kernel_rfl) ?_
      refine xm_take 3 (m' := 15) rfl (by kernel_rfl) (by first | exact Sb.refl | exact Sb.nil | (repeat (first | exact Sb.nil | exact Sb.refl | exact Sb.app0 | apply Sb.keep | apply Sb.keepApp | apply Sb.cons | apply Sb.app))) (rd_move rfl) rfl (by kernel_rfl) ?_
      refine xm_ndec 32 rfl (fun h => absurd rfl h) (fun _ => ?_)
      refine xm_gtake 4 (m' := 31) rfl (by kernel_rfl) (by first | exact Sb.refl | exact Sb.nil | (repeat (first | exact Sb.nil | exact Sb.refl | exact Sb.app0 | apply Sb.keep | apply Sb.keepApp | apply Sb.cons | apply Sb.app))) rfl rfl (rd_loadB rfl Kn.o0 (by rfl)) rfl (by kernel_rfl) ?_
      refine xm_gtake 6 (m' := 95) rfl (by kernel_rfl) (by first | exact Sb.refl | exact Sb.nil | (repeat (first | exact Sb.nil | exact Sb.refl | exact Sb.app0 | apply Sb.keep | apply Sb.keepApp | apply Sb.cons | apply Sb.app))) rfl rfl (rd_loadB rfl Kn.o1 (by rfl)) rfl (by kernel_rfl) ?_
      refine xm_gone 5 (m' := 127) rfl (by kernel_rfl) rfl rfl rfl (by kernel_rfl) (ef_call rfl (XF.mono (xf_packet2 q t1 t2 t3 j1 j2 j3 (hu1.rs (by intro z hz; simp [hz])) (hu2.rs (by intro z hz; simp [hz])) (hu3.rs (by intro z hz; simp [hz])) (by omega) (by omega) (by omega)) ?_))
      rintro v L' ⟨y1, z1, y2, z2, y3, z3, x1, x2, x3, rfl, hx1, hx2, hx3, rfl⟩
      refine xmx_perm (perm_end4 x1 x2 x3 _) ?_
      refine ⟨(by first | exact Sb.refl | exact Sb.nil | (repeat (first | exact Sb.nil | exact Sb.refl | exact Sb.app0 | apply Sb.keep | apply Sb.keepApp | apply Sb.cons | apply Sb.app))), ?_⟩
      refine xm_gone 7 (m' := 255) rfl (by kernel_rfl) rfl rfl rfl (by kernel_rfl) (ef_call rfl (XF.mono (xf_rsameT q y1 y2 y3 s1 s2 s3 z1 z2 z3 k1 k2 k3 (hx1.rs (by intro z hz; simp [hz])) (hx2.rs (by intro z hz; simp [hz])) (hx3.rs (by intro z hz; simp [hz])) (hw1.rs (by intro z hz; simp [hz])) (hw2.rs (by intro z hz; simp [hz])) (hw3.rs (by intro z hz; simp [hz])) (by omega) (by omega) (by omega)) ?_))
      rintro v L' ⟨rfl, rfl⟩
      refine ⟨(by first | exact Sb.refl | exact Sb.nil | (repeat (first | exact Sb.nil | exact Sb.refl | exact Sb.app0 | apply Sb.keep | apply Sb.keepApp | apply Sb.cons | apply Sb.app))), ?_⟩
      refine xm_gtake 8 (m' := 511) rfl (by kernel_rfl) (by first | exact Sb.refl | exact Sb.nil | (repeat (first | exact Sb.nil | exact Sb.refl | exact Sb.app0 | apply Sb.keep | apply Sb.keepApp | apply Sb.cons | apply Sb.app))) rfl rfl (rd_not rfl) rfl (by kernel_rfl) ?_
      refine xm_take 9 (m' := 1023) rfl (by kernel_rfl) (by first | exact Sb.refl | exact Sb.nil | (repeat (first | exact Sb.nil | exact Sb.refl | exact Sb.app0 | apply Sb.keep | apply Sb.keepApp | apply Sb.cons | apply Sb.app))) (rd_pickf rfl rfl) rfl (by kernel_rfl) ?_
      refine xm_take 10 (m' := 2047) rfl (by kernel_rfl) (by first | exact Sb.refl | exact Sb.nil | (repeat (first | exact Sb.nil | exact Sb.refl | exact Sb.app0 | apply Sb.keep | apply Sb.keepApp | apply Sb.cons | apply Sb.app))) (rd_move rfl) rfl (by kernel_rfl) ?_
      refine xm_gtake 11 (m' := 4095) rfl (by kernel_rfl) (by first | exact Sb.refl | exact Sb.nil | (repeat (first | exact Sb.nil | exact Sb.refl | exact Sb.app0 | apply Sb.keep | apply Sb.keepApp | apply Sb.cons | apply Sb.app))) rfl rfl (rd_move rfl) rfl (by kernel_rfl) ?_
      refine xm_gtake 13 (m' := 12287) rfl (by kernel_rfl) (by first | exact Sb.refl | exact Sb.nil | (repeat (first | exact Sb.nil | exact Sb.refl | exact Sb.app0 | apply Sb.keep | apply Sb.keepApp | apply Sb.cons | apply Sb.app))) rfl rfl (rd_move rfl) rfl (by kernel_rfl) ?_
      refine xm_gone 12 (m' := 16383) rfl (by kernel_rfl) rfl rfl rfl (by kernel_rfl) (ef_call rfl (XF.mono (xf_isRtcpB p m c bs rb hrb hx (hr' _) (by omega)) ?_))
      rintro v L' ⟨rfl, rfl⟩
      refine ⟨(by first | exact Sb.refl | exact Sb.nil | (repeat (first | exact Sb.nil | exact Sb.refl | exact Sb.app0 | apply Sb.keep | apply Sb.keepApp | apply Sb.cons | apply Sb.app))), ?_⟩
      refine xm_gone 14 (m' := 32767) rfl (by kernel_rfl) rfl rfl rfl (by kernel_rfl) (ef_call rfl (XF.mono (xf_risRtcpB po m co bs rb hrb hx (hOo.rs (by intro z hz; simp [hz])) (by omega)) ?_))
      rintro v L' ⟨rfl, rfl⟩
      refine ⟨(by first | exact Sb.refl | exact Sb.nil | (repeat (first | exact Sb.nil | exact Sb.refl | exact Sb.app0 | apply Sb.keep | apply Sb.keepApp | apply Sb.cons | apply Sb.app))), ?_⟩
      refine xm_gtake 15 (m' := 65535) rfl (by kernel_rfl) (by first | exact Sb.refl | exact Sb.nil | (repeat (first | exact Sb.nil | exact Sb.refl | exact Sb.app0 | apply Sb.keep | apply Sb.keepApp | apply Sb.cons | apply Sb.app))) rfl rfl (rd_cast (v' := .bool false) (rd_neb rfl rfl) (by simp)) rfl (by kernel_rfl) ?_
      refine xm_take 16 (m' := 131071) rfl (by kernel_rfl) (by first | exact Sb.refl | exact Sb.nil | (repeat (first | exact Sb.nil | exact Sb.refl | exact Sb.app0 | apply Sb.keep | apply Sb.keepApp | apply Sb.cons | apply Sb.app))) (rd_pickf rfl rfl) rfl (by kernel_rfl) ?_
      refine xm_done (by kernel_rfl) ?_
      refine xq_seq ?_
      refine xc_condf rfl ?_
      refine xc_skip ?_
      refine xq_seq ?_
      refine xc_region ?_
      refine xo_rd (rd_loadB rfl Kn.o0 (by rfl)) rfl ?_
      refine xo_ef rfl (ef_call rfl (XF.mono ((xf_spoilPacket (L := ((r7, .cells (q.enc (.slice t1 q.cs.length j1) (.slice t2 q.ex.length j2) (.slice t3 q.pl.length j3)).toArray 33 (0, 0)) :: (x1 ++ (x2 ++ x3))) ++ ((r4, .cells (q.enc (.slice s1 q.cs.length k1) (.slice s2 q.ex.length k2) (.slice s3 q.pl.length k3)).toArray 29 (0, 0)) :: (lo ++ (w1 ++ (w2 ++ w3))))) q t1 t2 t3 j1 j2 j3 u1 u2 u3 hu1 hu2 hu3 (by omega) (by omega) (by omega)).perm (by classical exact List.perm_iff_count.2 fun a => by simp only [List.append_eq, List.count_append, List.count_cons, List.count_nil, List.cons_append, List.nil_append, List.flatMap_append, List.flatMap_cons, List.flatMap_nil, List.append_nil]; omega)) ?_))
      rintro v L' ⟨rfl, G, rfl⟩
      refine xo_nil ?_
      refine xq_block ?_
      refine xq_seq ?_
      refine xc_region ?_
      refine xo_rd (rd_move rfl) rfl ?_
      refine xo_rd (rd_addn rfl rfl (by omega) (by omega)) rfl ?_
      refine xo_rd (rd_assign rfl) rfl ?_
      refine xo_nil ?_
    exact xq_sub ((List.sublist_append_right _ _).trans (List.sublist_append_right _ _)) (xq_roundI (i + 1) (by omega) (by omega) rfl (by repeat (first | exact keep_nil | refine keep_cons rfl ?_)))
  · skip
    focus
      refine xo_ef rfl (ef_call rfl (XF.mono (xf_samebytesT p po m m c co bs bs rfl hx hx (hr' _) (hOo.rs (by intro z hz; simp [hz])) (by omega)) ?_))
      rintro v L' ⟨rfl, rfl⟩
      refine xo_rd (rd_move rfl) rfl ?_
      refine xo_gef rfl rfl rfl (ef_call rfl (XF.mono (xf_any (fun W => xf_works)) ?_))
      rintro v L' ⟨rfl, rfl⟩
      refine xo_rd (rd_pickt rfl rfl) rfl ?_
      refine xo_rd (rd_assign rfl) rfl ?_
      refine xo_nil ?_
      refine xq_seq ?_
      refine xc_ret ?_
      exact xq_ret1 (.inl rfl) Try.results3 rfl (rfl)
end Go.Proofs.Ytpcmnbagalhjiaa.X
