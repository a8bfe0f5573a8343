/-
  RtcpPuts: a walk of my own.
-/
import Derived.Test.YtohlaabclifbfaaF2
namespace Go.Proofs.Ytohlaabclifbfaa.X
open Go Go.RowKit
set_option linter.unusedVariables false
set_option linter.unusedSimpArgs false
set_option maxHeartbeats 8000000 in
theorem xf_RtcpPuts {W : World} (x : Sn) (hx : x.Rg) (p1 : Option Addr) (c1 : Nat) (hr1 : Rs W [] p1 (x.bl.flatMap Bk.enc)) (hn1 : x.bl.length ≤ 9223372036854775807)
    (p2 : Option Addr) (n c2 : Nat) (xs : List Ck) (hxs : xs.length = n) (hr2 : Rs W [] p2 (xs.flatMap Ck.enc)) (hu2 : ∀ x, x ∈ xs → U4 x.ss) (hn2 : n ≤ 9223372036854775807)
    (z : By') (p3 : Option Addr) (c3 : Nat) (hr3 : Rs W [] p3 (ints .u32 z.so)) (hu3 : ∀ y, y ∈ z.so → U4 y) (hn3 : z.so.length ≤ 9223372036854775807) (hm3 : z.re.size ≤ 9223372036854775807) :
    XF Try.prog W 6 #[.agg (x.enc (.slice p1 x.bl.length c1)).toArray, .slice p2 n c2, .agg (z.enc (.slice p3 z.so.length c3)).toArray] [] (fun v L' => v = .bool true) := by
  refine xf_enter (args := [_, _, _]) Try.func6 rfl Try.ntmps6 rfl ?_
  obtain ⟨fb, hfb⟩ : ∃ b : Bool, fewP xs x.bl.length z.so.length z.re.size = b := ⟨_, rfl⟩
  obtain ⟨⟨q1, e1⟩, hz1⟩ : ∃ w, sndR x = w := ⟨_, rfl⟩
  obtain ⟨⟨q2, e2⟩, hz2⟩ : ∃ w, rcvR x.ss x.bl = w := ⟨_, rfl⟩
  obtain ⟨⟨q3, e3⟩, hz3⟩ : ∃ w, putCh xs = w := ⟨_, rfl⟩
  obtain ⟨⟨q4, e4⟩, hz4⟩ : ∃ w, putBy z = w := ⟨_, rfl⟩
  have g1 : q1.Rg := by have := sndR_rg hx; rwa [hz1] at this
  have g2 : q2.Rg := by have := rcvR_rg hx.ss hx.bl; rwa [hz2] at this
  have g3 : q3.Rg := by have := putCh_rg hu2; rwa [hz3] at this
  have g4 : q4.Rg := by have := putBy_rg hu3; rwa [hz4] at this
  have l1 : q1.bd.length ≤ 24 + 24 * x.bl.length := by have := sndR_len x; rwa [hz1] at this
  have l2 : q2.bd.length ≤ 24 + 24 * x.bl.length := by have := rcvR_len x.ss x.bl; rwa [hz2] at this
  have l3 : q3.bd.length ≤ 300 * xs.length := by have := putCh_len xs; rwa [hz3] at this
  have l4 : q4.bd.length ≤ 4 * z.so.length + z.re.size + 4 := by have := putBy_len z; rwa [hz4] at this
  have hss : ∃ ss nt rt pk oc bl, x = ⟨ss, nt, rt, pk, oc, bl⟩ := ⟨_, _, _, _, _, _, rfl⟩
  have hzz : ∃ so re, z = ⟨so, re⟩ := ⟨_, _, rfl⟩
  by_cases hf0 : ¬ fb = true
  · skip
    have : fb = false := by simpa using hf0
    subst this
    focus
      refine xc_seq ?_
      refine xc_region ?_
      refine xo_ef rfl (ef_box rfl fun r3 => ?_)
      refine xo_ef rfl (ef_box rfl fun r5 => ?_)
      refine xo_rd (rd_assign rfl) rfl ?_
      refine xo_nil ?_
      refine xq_seq ?_
      refine xc_seq ?_
      refine xc_seq ?_
      refine xc_region ?_
      refine xo_rd (rd_loadB rfl Kn.o1 (by rfl)) rfl ?_
      refine xo_rd (rd_move rfl) rfl ?_
      refine xo_rd (rd_loadB rfl Kn.o0 (by rfl)) rfl ?_
      refine xo_ef rfl (ef_call rfl (XF.mono (xf_fewP x p1 x.bl.length c1 p2 n c2 xs p3 z.so.length c3 z.re _ hfb hxs (hr2.mono (by intro z hz; simp [hz])) hn2) ?_))
      rintro v L' ⟨rfl, rfl⟩
      refine xo_rd (rd_not rfl) rfl ?_
      refine xo_nil ?_
      refine xq_seq ?_
      refine xc_condt rfl ?_
      refine xc_seq ?_
      refine xc_region ?_
      refine xo_ef rfl (ef_call rfl (XF.mono (xf_any (fun W => xf_works)) ?_))
      rintro v L' ⟨rfl, rfl⟩
      refine xo_rd (rd_assign rfl) rfl ?_
      refine xo_nil ?_
      refine xq_seq ?_
      refine xc_ret ?_
      refine xq_then_ret ?_
      exact xq_ret1 (.inl rfl) Try.results6 rfl (rfl)
  have hft : fb = true := Decidable.not_not.1 hf0
  subst hft
  obtain ⟨f1, f2, f3, f4, f5⟩ := of_decide_eq_true hfb
  focus
    refine xc_seq ?_
    refine xc_region ?_
    refine xo_ef rfl (ef_box rfl fun r3 => ?_)
    refine xo_ef rfl (ef_box rfl fun r5 => ?_)
    refine xo_rd (rd_assign rfl) rfl ?_
    refine xo_nil ?_
    refine xq_seq ?_
    refine xc_seq ?_
    refine xc_seq ?_
    refine xc_region ?_
    refine xo_rd (rd_loadB rfl Kn.o1 (by rfl)) rfl ?_
    refine xo_rd (rd_move rfl) rfl ?_
    refine xo_rd (rd_loadB rfl Kn.o0 (by rfl)) rfl ?_
    refine xo_ef rfl (ef_call rfl (XF.mono (xf_fewP x p1 x.bl.length c1 p2 n c2 xs p3 z.so.length c3 z.re _ hfb hxs (hr2.mono (by intro z hz; simp [hz])) hn2) ?_))
    rintro v L' ⟨rfl, rfl⟩
    refine xo_rd (rd_not rfl) rfl ?_
    refine xo_nil ?_
    refine xq_seq ?_
    refine xc_condf rfl ?_
    refine xc_skip ?_
    refine xq_seq ?_
    refine xc_seq ?_
    refine xc_region ?_
    refine xo_rd (rd_fieldAddr rfl) rfl ?_
    refine xo_rd (rd_load1 rfl (Cl.o1 rfl)) rfl ?_
    refine xo_rd (rd_fieldAddr rfl) rfl ?_
    refine xo_rd (rd_load1 rfl (Cl.o1 rfl)) rfl ?_
    refine xo_rd (rd_build rfl rfl rfl) rfl ?_
    refine xo_ef rfl (ef_alloc fun r7 => ?_)
    refine xo_ef rfl (ef_storeB [] _ rfl rfl (by first | rfl | assumption) rfl rfl rfl ?_)
    refine xo_nil ?_
    refine xq_seq ?_
    refine xc_seq ?_
    refine xc_region ?_
    refine xo_rd (rd_loadB rfl Kn.o2 (by rfl)) rfl ?_
    refine xo_ef rfl (ef_call rfl (XF.mono (xg_sender x hx p1 c1 q1 e1 hz1 hr1.nilL (by omega)) ?_))
    rintro v L' ⟨x1, rfl, hq1, ho1, rfl⟩
    refine xo_seg [_, _, _] x1.l _ ?_
    refine xo_rd (rd_move rfl) rfl ?_
    refine xo_rd (rd_extract rfl rfl) rfl ?_
    refine xo_rd (rd_extract rfl rfl) rfl ?_
    refine xo_ef rfl (ef_alloc fun r8 => ?_)
    refine xo_ef rfl (ef_storeB [] _ rfl rfl (by first | rfl | assumption) rfl rfl rfl ?_)
    refine xo_rd (rd_assign rfl) rfl ?_
    refine xo_nil ?_
    refine xq_seq ?_
    refine xc_seq ?_
    refine xc_region ?_
    refine xo_rd (rd_loadB rfl Kn.o1 (by rfl)) rfl ?_
    refine xo_ef rfl (ef_call rfl (XF.mono (xg_receiver x.ss hx.ss p1 x.bl.length c1 x.bl q2 e2 hz2 rfl hr1.nilL hx.bl (by omega)) ?_))
    rintro v L' ⟨x2, rfl, hq2, ho2, rfl⟩
    refine xo_seg [_, _, _, _] x2.l _ ?_
    refine xo_rd (rd_move rfl) rfl ?_
    refine xo_rd (rd_extract rfl rfl) rfl ?_
    refine xo_rd (rd_extract rfl rfl) rfl ?_
    refine xo_ef rfl (ef_alloc fun r10 => ?_)
    refine xo_ef rfl (ef_storeB [] _ rfl rfl (by first | rfl | assumption) rfl rfl rfl ?_)
    refine xo_rd (rd_assign rfl) rfl ?_
    refine xo_nil ?_
    refine xq_seq ?_
    refine xc_seq ?_
    refine xc_region ?_
    refine xo_rd (rd_move rfl) rfl ?_
    refine xo_ef rfl (ef_call rfl (XF.mono (xg_chunks p2 n c2 xs q3 e3 hz3 hxs hr2.nilL hu2 (by omega)) ?_))
    rintro v L' ⟨x3, rfl, hq3, ho3, rfl⟩
    refine xo_seg [_, _, _, _, _] x3.l _ ?_
    refine xo_rd (rd_move rfl) rfl ?_
    refine xo_rd (rd_extract rfl rfl) rfl ?_
    refine xo_rd (rd_extract rfl rfl) rfl ?_
    refine xo_ef rfl (ef_alloc fun r12 => ?_)
    refine xo_ef rfl (ef_storeB [] _ rfl rfl (by first | rfl | assumption) rfl rfl rfl ?_)
    refine xo_rd (rd_assign rfl) rfl ?_
    refine xo_nil ?_
    refine xq_seq ?_
    refine xc_seq ?_
    refine xc_region ?_
    refine xo_rd (rd_loadB rfl Kn.o4 (by rfl)) rfl ?_
    refine xo_ef rfl (ef_call rfl (XF.mono (xg_bye z p3 c3 q4 e4 hz4 hr3.nilL hu3 hn3 hm3) ?_))
    rintro v L' ⟨x4, rfl, hq4, ho4, rfl⟩
    refine xo_seg [_, _, _, _, _, _] x4.l _ ?_
    refine xo_rd (rd_move rfl) rfl ?_
    refine xo_rd (rd_extract rfl rfl) rfl ?_
    refine xo_rd (rd_extract rfl rfl) rfl ?_
    refine xo_ef rfl (ef_alloc fun r14 => ?_)
    refine xo_ef rfl (ef_storeB [] _ rfl rfl (by first | rfl | assumption) rfl rfl rfl ?_)
    refine xo_rd (rd_assign rfl) rfl ?_
    refine xo_nil ?_
    refine xq_seq ?_
  subst hq1 hq2 hq3 hq4
  obtain ⟨cz, hcz⟩ : ∃ cz, cz = (.agg (z.enc (.slice p3 z.so.length c3)).toArray : Value).cells := ⟨_, rfl⟩
  refine xc_sub (L' := (r14, .cells x4.enc.toArray 35 (0, 0)) :: (r12, .cells x3.enc.toArray 35 (0, 0)) :: (r10, .cells x2.enc.toArray 35 (0, 0)) :: (r8, .cells x1.enc.toArray 35 (0, 0)) :: (r7, .cells #[.int .u32 x.ss, .slice p1 x.bl.length c1] 60 (0, 0)) :: (r5, .cells (z.enc (.slice p3 z.so.length c3)).toArray 57 (0, 0)) :: (r3, .cells (x.enc (.slice p1 x.bl.length c1)).toArray 53 (0, 0)) :: (x4.l ++ (x3.l ++ (x2.l ++ (x1.l ++ []))))) (List.Sublist.refl _) ?_
  have b1 : Rs W (x4.l ++ (x3.l ++ (x2.l ++ (x1.l ++ [])))) x1.p (ints .u8 x1.q.bd) := SlO.rs ho1 (by intro z hz; simp [hz])
  have b2 : Rs W (x4.l ++ (x3.l ++ (x2.l ++ (x1.l ++ [])))) x2.p (ints .u8 x2.q.bd) := SlO.rs ho2 (by intro z hz; simp [hz])
  have b3 : Rs W (x4.l ++ (x3.l ++ (x2.l ++ (x1.l ++ [])))) x3.p (ints .u8 x3.q.bd) := SlO.rs ho3 (by intro z hz; simp [hz])
  have b4 : Rs W (x4.l ++ (x3.l ++ (x2.l ++ (x1.l ++ [])))) x4.p (ints .u8 x4.q.bd) := SlO.rs ho4 (by intro z hz; simp [hz])
  have k1 := ho1.cap.2
  have k2 := ho2.cap.2
  have k3 := ho3.cap.2
  have k4 := ho4.cap.2
  generalize x4.l ++ (x3.l ++ (x2.l ++ (x1.l ++ []))) = G at *
  focus
    refine xc_seq ?_
    refine xc_region ?_
    refine xo_rd (rd_loadB rfl Kn.o6 (by rfl)) rfl ?_
    refine xo_ef rfl (ef_call rfl (XF.mono (xf_dSender x p1 c1 hr1.nilL (by omega)) ?_))
    rintro v L' ⟨s5, k5, l5, rfl, hO5, rfl⟩
    refine xo_seg [_, _, _, _, _, _, _] l5 _ ?_
    refine xo_ef rfl (ef_call rfl (XF.mono (xg_rsender x hx _ _ x1.q e1 hz1 (hO5.rs (by intro z hz; simp [hz])) (by omega)) ?_))
    rintro v L' ⟨y1, rfl, hy1, hp1, rfl⟩
    refine xo_seg [_, _, _, _, _, _, _] y1.l _ ?_
    refine xo_rd (rd_move rfl) rfl ?_
    refine xo_rd (rd_extract rfl rfl) rfl ?_
    refine xo_rd (rd_extract rfl rfl) rfl ?_
    refine xo_ef rfl (ef_alloc fun r16 => ?_)
    refine xo_ef rfl (ef_storeB [] _ rfl rfl (by first | rfl | assumption) rfl rfl rfl ?_)
    refine xo_rd (rd_assign rfl) rfl ?_
    refine xo_nil ?_
    refine xq_seq ?_
    refine xc_seq ?_
    refine xc_region ?_
    refine xo_rd (rd_loadB rfl Kn.o5 (by rfl)) rfl ?_
    refine xo_ef rfl (ef_call rfl (XF.mono (xf_dReceiver x.ss p1 x.bl.length c1 x.bl rfl hr1.nilL (by omega)) ?_))
    rintro v L' ⟨s6, k6, l6, rfl, hO6, rfl⟩
    refine xo_seg [_, _, _, _, _, _, _, _] l6 _ ?_
    refine xo_ef rfl (ef_call rfl (XF.mono (xg_rreceiver x.ss hx.ss _ x.bl.length _ x.bl x2.q e2 hz2 rfl (hO6.rs (by intro z hz; simp [hz])) hx.bl (by omega)) ?_))
    rintro v L' ⟨y2, rfl, hy2, hp2, rfl⟩
    refine xo_seg [_, _, _, _, _, _, _, _] y2.l _ ?_
    refine xo_rd (rd_move rfl) rfl ?_
    refine xo_rd (rd_extract rfl rfl) rfl ?_
    refine xo_rd (rd_extract rfl rfl) rfl ?_
    refine xo_ef rfl (ef_alloc fun r18 => ?_)
    refine xo_ef rfl (ef_storeB [] _ rfl rfl (by first | rfl | assumption) rfl rfl rfl ?_)
    refine xo_rd (rd_assign rfl) rfl ?_
    refine xo_nil ?_
    refine xq_seq ?_
    refine xc_seq ?_
    refine xc_region ?_
    refine xo_rd (rd_move rfl) rfl ?_
    refine xo_ef rfl (ef_call rfl (XF.mono (xf_dChunks p2 n c2 xs hxs hr2.nilL (by omega)) ?_))
    rintro v L' ⟨s7, k7, l7, rfl, hO7, rfl⟩
    refine xo_seg [_, _, _, _, _, _, _, _, _] l7 _ ?_
    refine xo_ef rfl (ef_call rfl (XF.mono (xg_rchunks _ n _ xs x3.q e3 hz3 hxs (hO7.rs (by intro z hz; simp [hz])) hu2 (by omega)) ?_))
    rintro v L' ⟨y3, rfl, hy3, hp3, rfl⟩
    refine xo_seg [_, _, _, _, _, _, _, _, _] y3.l _ ?_
    refine xo_rd (rd_move rfl) rfl ?_
    refine xo_rd (rd_extract rfl rfl) rfl ?_
    refine xo_rd (rd_extract rfl rfl) rfl ?_
    refine xo_ef rfl (ef_alloc fun r20 => ?_)
    refine xo_ef rfl (ef_storeB [] _ rfl rfl (by first | rfl | assumption) rfl rfl rfl ?_)
    refine xo_rd (rd_assign rfl) rfl ?_
    refine xo_nil ?_
    refine xq_seq ?_
    refine xc_seq ?_
    refine xc_region ?_
    refine xo_rd (rd_loadB rfl Kn.o8 (by rfl)) rfl ?_
    refine xo_ef rfl (ef_call rfl (XF.mono (xf_dBye z p3 c3 hr3.nilL (by omega)) ?_))
    rintro v L' ⟨s8, k8, l8, rfl, hO8, rfl⟩
    refine xo_seg [_, _, _, _, _, _, _, _, _, _] l8 _ ?_
    refine xo_ef rfl (ef_call rfl (XF.mono (xg_rbye z _ _ x4.q e4 hz4 (hO8.rs (by intro z hz; simp [hz])) hu3 hn3 hm3) ?_))
    rintro v L' ⟨y4, rfl, hy4, hp4, rfl⟩
    refine xo_seg [_, _, _, _, _, _, _, _, _, _] y4.l _ ?_
    refine xo_rd (rd_move rfl) rfl ?_
    refine xo_rd (rd_extract rfl rfl) rfl ?_
    refine xo_rd (rd_extract rfl rfl) rfl ?_
    refine xo_ef rfl (ef_alloc fun r22 => ?_)
    refine xo_ef rfl (ef_storeB [] _ rfl rfl (by first | rfl | assumption) rfl rfl rfl ?_)
    refine xo_rd (rd_assign rfl) rfl ?_
    refine xo_nil ?_
    refine xq_seq ?_
    refine xc_seq ?_
    refine xc_seq ?_
    refine xc_region ?_
    refine xo_rd (rd_loadB rfl Kn.o7 (by rfl)) rfl ?_
    refine xo_rd (rd_move rfl) rfl ?_
    refine xo_rd (rd_loadB rfl Kn.o3 (by rfl)) rfl ?_
    refine xo_rd (rd_move rfl) rfl ?_
    refine xo_ef rfl (ef_call rfl (XF.mono (xf_is x1 y1 e1 hy1.symm (b1.mono (by intro z hz; simp [hz])) (SlO.rs hp1 (by intro z hz; simp [hz])) g1 (by omega)) ?_))
    rintro v L' ⟨rfl, rfl⟩
    refine xo_rd (rd_not rfl) rfl ?_
    refine xo_rd (rd_move rfl) rfl ?_
    refine xo_grd rfl rfl (rd_loadB rfl Kn.o6 (by rfl)) rfl ?_
    refine xo_grd rfl rfl (rd_move rfl) rfl ?_
    refine xo_grd rfl rfl (rd_loadB rfl Kn.o2 (by rfl)) rfl ?_
    refine xo_grd rfl rfl (rd_move rfl) rfl ?_
    refine xo_gef rfl rfl rfl (ef_call rfl (XF.mono (xf_is x2 y2 e2 hy2.symm (b2.mono (by intro z hz; simp [hz])) (SlO.rs hp2 (by intro z hz; simp [hz])) g2 (by omega)) ?_))
    rintro v L' ⟨rfl, rfl⟩
    refine xo_grd rfl rfl (rd_not rfl) rfl ?_
    refine xo_rd (rd_pickf rfl rfl) rfl ?_
    refine xo_rd (rd_move rfl) rfl ?_
    refine xo_grd rfl rfl (rd_loadB rfl Kn.o5 (by rfl)) rfl ?_
    refine xo_grd rfl rfl (rd_move rfl) rfl ?_
    refine xo_grd rfl rfl (rd_loadB rfl Kn.o1 (by rfl)) rfl ?_
    refine xo_grd rfl rfl (rd_move rfl) rfl ?_
    refine xo_gef rfl rfl rfl (ef_call rfl (XF.mono (xf_is x3 y3 e3 hy3.symm (b3.mono (by intro z hz; simp [hz])) (SlO.rs hp3 (by intro z hz; simp [hz])) g3 (by omega)) ?_))
    rintro v L' ⟨rfl, rfl⟩
    refine xo_grd rfl rfl (rd_not rfl) rfl ?_
    refine xo_rd (rd_pickf rfl rfl) rfl ?_
    refine xo_rd (rd_move rfl) rfl ?_
    refine xo_grd rfl rfl (rd_loadB rfl Kn.o4 (by rfl)) rfl ?_
    refine xo_grd rfl rfl (rd_move rfl) rfl ?_
    refine xo_grd rfl rfl (rd_loadB rfl Kn.o0 (by rfl)) rfl ?_
    refine xo_grd rfl rfl (rd_move rfl) rfl ?_
    refine xo_gef rfl rfl rfl (ef_call rfl (XF.mono (xf_is x4 y4 e4 hy4.symm (b4.mono (by intro z hz; simp [hz])) (SlO.rs hp4 (by intro z hz; simp [hz])) g4 (by omega)) ?_))
    rintro v L' ⟨rfl, rfl⟩
    refine xo_grd rfl rfl (rd_not rfl) rfl ?_
    refine xo_rd (rd_pickf rfl rfl) rfl ?_
    refine xo_nil ?_
    refine xq_seq ?_
    refine xc_condf rfl ?_
    refine xc_skip ?_
    refine xq_seq ?_
  have hcc : ∀ (a b c d : Blk) (A R : List Blk), (A ++ G).Sublist (a :: b :: c :: d :: (A ++ (R ++ G))) := fun a b c d A R => .cons _ (.cons _ (.cons _ (.cons _ (List.Sublist.append_left (List.sublist_append_right R G) A))))
  refine xc_sub (L' := (r14, .cells x4.enc.toArray 35 (0, 0)) :: (r12, .cells x3.enc.toArray 35 (0, 0)) :: (r10, .cells x2.enc.toArray 35 (0, 0)) :: (r8, .cells x1.enc.toArray 35 (0, 0)) :: (r7, .cells #[.int .u32 x.ss, .slice p1 x.bl.length c1] 60 (0, 0)) :: (r5, .cells (z.enc (.slice p3 z.so.length c3)).toArray 57 (0, 0)) :: (r3, .cells (x.enc (.slice p1 x.bl.length c1)).toArray 53 (0, 0)) :: G) (.cons _ (.cons _ (.cons _ (.cons _ (.cons_cons _ (.cons_cons _ (.cons_cons _ (.cons_cons _ (.cons_cons _ (.cons_cons _ (.cons_cons _ (by repeat (first | exact List.Sublist.refl _ | refine List.Sublist.trans ?_ (List.sublist_append_right _ _)))))))))))))) ?_
  refine xc_join (ι := Unit) (fun _ => True) (fun _ => (r14, .cells x4.enc.toArray 35 (0, 0)) :: (r12, .cells x3.enc.toArray 35 (0, 0)) :: (r10, .cells x2.enc.toArray 35 (0, 0)) :: (r8, .cells x1.enc.toArray 35 (0, 0)) :: (r7, .cells #[.int .u32 x.ss, .slice p1 x.bl.length c1] 60 (0, 0)) :: (r5, .cells (z.enc (.slice p3 z.so.length c3)).toArray 57 (0, 0)) :: (r3, .cells (x.enc (.slice p1 x.bl.length c1)).toArray 53 (0, 0)) :: G) (fun _ => [(1, .slice p2 n c2), (3, .pointer (some ⟨r3, 0, none⟩)), (5, .pointer (some ⟨r5, 0, none⟩)), (7, .pointer (some ⟨r7, 0, none⟩)), (8, .pointer (some ⟨r8, 0, none⟩)), (10, .pointer (some ⟨r10, 0, none⟩)), (12, .pointer (some ⟨r12, 0, none⟩)), (13, .int .i64 e3), (14, .pointer (some ⟨r14, 0, none⟩)), (15, .int .i64 e4)]) ?_ ?_
  · by_cases h0 : e1 = 0
    · subst h0
      obtain ⟨of1, R1, _⟩ := ofSn_put hx hz1
      have he2 : e2 = 0 := by
        unfold sndR at hz1
        unfold rcvR at hz2
        split at hz1
        · rename_i hb
          rw [if_pos hb] at hz2
          simp only [Prod.mk.injEq] at hz2
          exact hz2.2.symm
        · simp at hz1
      subst he2
      obtain ⟨of2, R2, _⟩ := ofRc_put hx.ss hx.bl hz2
      focus
        refine xc_seq ?_
        refine xc_region ?_
        refine xo_rd (rd_move rfl) rfl ?_
        refine xo_rd (rd_eql rfl rfl) rfl ?_
        refine xo_nil ?_
        refine xq_seq ?_
        refine xc_condt rfl ?_
        refine xc_seq ?_
        refine xc_region ?_
        refine xo_rd (rd_loadB rfl Kn.o3 (by rfl)) rfl ?_
        refine xo_ef rfl (ef_call rfl (XF.mono (xg_ofSender x1 x of1 (b1.mono (by intro z hz; simp [hz])) g1 k1 (by omega)) ?_))
        rintro v L' ⟨s9, k9, l9, rfl, hO9, rfl⟩
        refine xo_seg [_, _, _, _, _, _, _] l9 _ ?_
        refine xo_rd (rd_move rfl) rfl ?_
        refine xo_rd (rd_extract rfl rfl) rfl ?_
        refine xo_rd (rd_extract rfl rfl) rfl ?_
        refine xo_ef rfl (ef_alloc fun r24 => ?_)
        refine xo_ef rfl (ef_storeB [] _ rfl rfl (by first | rfl | assumption) rfl rfl rfl ?_)
        refine xo_rd (rd_assign rfl) rfl ?_
        refine xo_nil ?_
        refine xq_seq ?_
        refine xc_seq ?_
        refine xc_region ?_
        refine xo_rd (rd_loadB rfl Kn.o3 (by rfl)) rfl ?_
        refine xo_ef rfl (ef_call rfl (XF.mono (xg_ofReceiver x2 x.ss x.bl of2 (b2.mono (by intro z hz; simp [hz])) g2 k2 (by omega)) ?_))
        rintro v L' ⟨s10, k10, l10, rfl, hO10, rfl⟩
        refine xo_seg [_, _, _, _, _, _, _, _] l10 _ ?_
        refine xo_rd (rd_move rfl) rfl ?_
        refine xo_rd (rd_extract rfl rfl) rfl ?_
        refine xo_rd (rd_extract rfl rfl) rfl ?_
        refine xo_ef rfl (ef_alloc fun r26 => ?_)
        refine xo_ef rfl (ef_storeB [] _ rfl rfl (by first | rfl | assumption) rfl rfl rfl ?_)
        refine xo_rd (rd_assign rfl) rfl ?_
        refine xo_nil ?_
        refine xq_seq ?_
      focus
        refine xc_seq ?_
        refine xc_drawM [0, 1, 2, 6, 8, 24, 40, 72, 160, 256, 768, 1280, 2304, 4096, 12288, 20480, 36864, 65536, 196608, 65536, 851968, 1376256, 2162688, 4259840, 10485760, 16777216, 50331648, 16777216, 218103808, 352321536, 553648128, 1090519040] [0, 1, 2, 6, 8, 24, 40, 72, 160, 256, 768, 1280, 2304, 4096, 12288, 20480, 36864, 65536, 196608, 65536, 851968, 1376256, 2162688, 4259840, 10485760, 16777216, 50331648, 16777216, 218103808, 352321536, 553648128, 1090519040] ([(r26, .cells #[.int .u32 x.ss, .slice s10 x.bl.length k10] 60 (0, 0)), (r24, .cells (x.enc (.slice s9 x.bl.length k9)).toArray 53 (0, 0)), (r14, .cells x4.enc.toArray 35 (0, 0)), (r12, .cells x3.enc.toArray 35 (0, 0)), (r10, .cells x2.enc.toArray 35 (0, 0)), (r8, .cells x1.enc.toArray 35 (0, 0)), (r7, .cells #[.int .u32 x.ss, .slice p1 x.bl.length c1] 60 (0, 0)), (r5, .cells (z.enc (.slice p3 z.so.length c3)).toArray 57 (0, 0)), (r3, .cells (x.enc (.slice p1 x.bl.length c1)).toArray 53 (0, 0))]) (by kernel_rfl) (by kernel_rfl) (by kernel_rfl) ?_
        refine xm_take 0 (m' := 1) rfl (by kernel_rfl) (by first | exact Sb.refl | exact Sb.nil | (repeat (first | exact Sb.nil | exact Sb.refl | exact Sb.app0 | apply Sb.keep | apply Sb.keepApp | apply Sb.cons | apply Sb.app))) (rd_loadB rfl Kn.o5 (by rfl)) rfl (by kernel_rfl) ?_
        refine xm_one 1 (m' := 3) rfl (by kernel_rfl) rfl (by kernel_rfl) (ef_call rfl (XF.mono (xf_rightP x1 true (decide_eq_true R1) g1 (by omega)) ?_))
        rintro v L' ⟨rfl, rfl⟩
        refine ⟨(by first | exact Sb.refl | exact Sb.nil | (repeat (first | exact Sb.nil | exact Sb.refl | exact Sb.app0 | apply Sb.keep | apply Sb.keepApp | apply Sb.cons | apply Sb.app))), ?_⟩
        refine xm_take 2 (m' := 7) rfl (by kernel_rfl) (by first | exact Sb.refl | exact Sb.nil | (repeat (first | exact Sb.nil | exact Sb.refl | exact Sb.app0 | apply Sb.keep | apply Sb.keepApp | apply Sb.cons | apply Sb.app))) (rd_not rfl) rfl (by kernel_rfl) ?_
        refine xm_take 3 (m' := 15) rfl (by kernel_rfl) (by first | exact Sb.refl | exact Sb.nil | (repeat (first | exact Sb.nil | exact Sb.refl | exact Sb.app0 | apply Sb.keep | apply Sb.keepApp | apply Sb.cons | apply Sb.app))) (rd_move rfl) rfl (by kernel_rfl) ?_
        refine xm_gtake 4 (m' := 31) rfl (by kernel_rfl) (by first | exact Sb.refl | exact Sb.nil | (repeat (first | exact Sb.nil | exact Sb.refl | exact Sb.app0 | apply Sb.keep | apply Sb.keepApp | apply Sb.cons | apply Sb.app))) rfl rfl (rd_loadB rfl Kn.o4 (by rfl)) rfl (by kernel_rfl) ?_
        refine xm_gone 5 (m' := 63) rfl (by kernel_rfl) rfl rfl rfl (by kernel_rfl) (ef_call rfl (XF.mono (xf_rightP x2 true (decide_eq_true R2) g2 (by omega)) ?_))
        rintro v L' ⟨rfl, rfl⟩
        refine ⟨(by first | exact Sb.refl | exact Sb.nil | (repeat (first | exact Sb.nil | exact Sb.refl | exact Sb.app0 | apply Sb.keep | apply Sb.keepApp | apply Sb.cons | apply Sb.app))), ?_⟩
        refine xm_gtake 6 (m' := 127) rfl (by kernel_rfl) (by first | exact Sb.refl | exact Sb.nil | (repeat (first | exact Sb.nil | exact Sb.refl | exact Sb.app0 | apply Sb.keep | apply Sb.keepApp | apply Sb.cons | apply Sb.app))) rfl rfl (rd_not rfl) rfl (by kernel_rfl) ?_
        refine xm_take 7 (m' := 255) rfl (by kernel_rfl) (by first | exact Sb.refl | exact Sb.nil | (repeat (first | exact Sb.nil | exact Sb.refl | exact Sb.app0 | apply Sb.keep | apply Sb.keepApp | apply Sb.cons | apply Sb.app))) (rd_pickf rfl rfl) rfl (by kernel_rfl) ?_
        refine xm_take 8 (m' := 511) rfl (by kernel_rfl) (by first | exact Sb.refl | exact Sb.nil | (repeat (first | exact Sb.nil | exact Sb.refl | exact Sb.app0 | apply Sb.keep | apply Sb.keepApp | apply Sb.cons | apply Sb.app))) (rd_move rfl) rfl (by kernel_rfl) ?_
        refine xm_gtake 9 (m' := 1023) rfl (by kernel_rfl) (by first | exact Sb.refl | exact Sb.nil | (repeat (first | exact Sb.nil | exact Sb.refl | exact Sb.app0 | apply Sb.keep | apply Sb.keepApp | apply Sb.cons | apply Sb.app))) rfl rfl (rd_move rfl) rfl (by kernel_rfl) ?_
        refine xm_gtake 10 (m' := 2047) rfl (by kernel_rfl) (by first | exact Sb.refl | exact Sb.nil | (repeat (first | exact Sb.nil | exact Sb.refl | exact Sb.app0 | apply Sb.keep | apply Sb.keepApp | apply Sb.cons | apply Sb.app))) rfl rfl (rd_neq rfl rfl) rfl (by kernel_rfl) ?_
        refine xm_take 11 (m' := 4095) rfl (by kernel_rfl) (by first | exact Sb.refl | exact Sb.nil | (repeat (first | exact Sb.nil | exact Sb.refl | exact Sb.app0 | apply Sb.keep | apply Sb.keepApp | apply Sb.cons | apply Sb.app))) (rd_pickf rfl rfl) rfl (by kernel_rfl) ?_
        refine xm_take 12 (m' := 8191) rfl (by kernel_rfl) (by first | exact Sb.refl | exact Sb.nil | (repeat (first | exact Sb.nil | exact Sb.refl | exact Sb.app0 | apply Sb.keep | apply Sb.keepApp | apply Sb.cons | apply Sb.app))) (rd_move rfl) rfl (by kernel_rfl) ?_
        refine xm_gtake 13 (m' := 16383) rfl (by kernel_rfl) (by first | exact Sb.refl | exact Sb.nil | (repeat (first | exact Sb.nil | exact Sb.refl | exact Sb.app0 | apply Sb.keep | apply Sb.keepApp | apply Sb.cons | apply Sb.app))) rfl rfl (rd_move rfl) rfl (by kernel_rfl) ?_
        refine xm_gtake 14 (m' := 32767) rfl (by kernel_rfl) (by first | exact Sb.refl | exact Sb.nil | (repeat (first | exact Sb.nil | exact Sb.refl | exact Sb.app0 | apply Sb.keep | apply Sb.keepApp | apply Sb.cons | apply Sb.app))) rfl rfl (rd_neq rfl rfl) rfl (by kernel_rfl) ?_
        refine xm_take 15 (m' := 65535) rfl (by kernel_rfl) (by first | exact Sb.refl | exact Sb.nil | (repeat (first | exact Sb.nil | exact Sb.refl | exact Sb.app0 | apply Sb.keep | apply Sb.keepApp | apply Sb.cons | apply Sb.app))) (rd_pickf rfl rfl) rfl (by kernel_rfl) ?_
        refine xm_take 16 (m' := 131071) rfl (by kernel_rfl) (by first | exact Sb.refl | exact Sb.nil | (repeat (first | exact Sb.nil | exact Sb.refl | exact Sb.app0 | apply Sb.keep | apply Sb.keepApp | apply Sb.cons | apply Sb.app))) (rd_move rfl) rfl (by kernel_rfl) ?_
        refine xm_gtake 17 (m' := 262143) rfl (by kernel_rfl) (by first | exact Sb.refl | exact Sb.nil | (repeat (first | exact Sb.nil | exact Sb.refl | exact Sb.app0 | apply Sb.keep | apply Sb.keepApp | apply Sb.cons | apply Sb.app))) rfl rfl (rd_loadB rfl Kn.o1 (by rfl)) rfl (by kernel_rfl) ?_
        refine xm_gtake 19 (m' := 786431) rfl (by kernel_rfl) (by first | exact Sb.refl | exact Sb.nil | (repeat (first | exact Sb.nil | exact Sb.refl | exact Sb.app0 | apply Sb.keep | apply Sb.keepApp | apply Sb.cons | apply Sb.app))) rfl rfl (rd_loadB rfl Kn.o8 (by rfl)) rfl (by kernel_rfl) ?_
        refine xm_gone 18 (m' := 1048575) rfl (by kernel_rfl) rfl rfl rfl (by kernel_rfl) (ef_call rfl (XF.mono (xf_dSender x s9 k9 (hO9.rs (by intro z hz; simp [hz])) (by omega)) ?_))
        rintro v L' ⟨s11, k11, l11, rfl, hO11, rfl⟩
        refine xmx_seg [_, _, _, _, _, _, _, _, _] l11 _ ?_
        refine ⟨(by first | exact Sb.refl | exact Sb.nil | (repeat (first | exact Sb.nil | exact Sb.refl | exact Sb.app0 | apply Sb.keep | apply Sb.keepApp | apply Sb.cons | apply Sb.app))), ?_⟩
        refine xm_gone 20 (m' := 2097151) rfl (by kernel_rfl) rfl rfl rfl (by kernel_rfl) (ef_call rfl (XF.mono (xf_dSender x p1 c1 hr1.nilL (by omega)) ?_))
        rintro v L' ⟨s12, k12, l12, rfl, hO12, rfl⟩
        refine xmx_seg [_, _, _, _, _, _, _, _, _] l12 _ ?_
        refine ⟨(by first | exact Sb.refl | exact Sb.nil | (repeat (first | exact Sb.nil | exact Sb.refl | exact Sb.app0 | apply Sb.keep | apply Sb.keepApp | apply Sb.cons | apply Sb.app))), ?_⟩
        refine xm_gone 21 (m' := 4194303) rfl (by kernel_rfl) rfl rfl rfl (by kernel_rfl) (ef_call rfl (XF.mono (xf_sameSender x _ _ _ _ (hO11.rs (by intro z hz; simp [hz])) (hO12.rs (by intro z hz; simp [hz])) (by omega)) ?_))
        rintro v L' ⟨rfl, rfl⟩
        refine ⟨(by first | exact Sb.refl | exact Sb.nil | (repeat (first | exact Sb.nil | exact Sb.refl | exact Sb.app0 | apply Sb.keep | apply Sb.keepApp | apply Sb.cons | apply Sb.app))), ?_⟩
        refine xm_gtake 22 (m' := 8388607) rfl (by kernel_rfl) (by first | exact Sb.refl | exact Sb.nil | (repeat (first | exact Sb.nil | exact Sb.refl | exact Sb.app0 | apply Sb.keep | apply Sb.keepApp | apply Sb.cons | apply Sb.app))) rfl rfl (rd_not rfl) rfl (by kernel_rfl) ?_
        refine xm_take 23 (m' := 16777215) rfl (by kernel_rfl) (by first | exact Sb.refl | exact Sb.nil | (repeat (first | exact Sb.nil | exact Sb.refl | exact Sb.app0 | apply Sb.keep | apply Sb.keepApp | apply Sb.cons | apply Sb.app))) (rd_pickf rfl rfl) rfl (by kernel_rfl) ?_
        refine xm_take 24 (m' := 33554431) rfl (by kernel_rfl) (by first | exact Sb.refl | exact Sb.nil | (repeat (first | exact Sb.nil | exact Sb.refl | exact Sb.app0 | apply Sb.keep | apply Sb.keepApp | apply Sb.cons | apply Sb.app))) (rd_move rfl) rfl (by kernel_rfl) ?_
        refine xm_gtake 25 (m' := 67108863) rfl (by kernel_rfl) (by first | exact Sb.refl | exact Sb.nil | (repeat (first | exact Sb.nil | exact Sb.refl | exact Sb.app0 | apply Sb.keep | apply Sb.keepApp | apply Sb.cons | apply Sb.app))) rfl rfl (rd_loadB rfl Kn.o0 (by rfl)) rfl (by kernel_rfl) ?_
        refine xm_gtake 27 (m' := 201326591) rfl (by kernel_rfl) (by first | exact Sb.refl | exact Sb.nil | (repeat (first | exact Sb.nil | exact Sb.refl | exact Sb.app0 | apply Sb.keep | apply Sb.keepApp | apply Sb.cons | apply Sb.app))) rfl rfl (rd_loadB rfl Kn.o6 (by rfl)) rfl (by kernel_rfl) ?_
        refine xm_gone 26 (m' := 268435455) rfl (by kernel_rfl) rfl rfl rfl (by kernel_rfl) (ef_call rfl (XF.mono (xf_dReceiver x.ss s10 x.bl.length k10 x.bl rfl (hO10.rs (by intro z hz; simp [hz])) (by omega)) ?_))
        rintro v L' ⟨s13, k13, l13, rfl, hO13, rfl⟩
        refine xmx_seg [_, _, _, _, _, _, _, _, _] l13 _ ?_
        refine ⟨(by first | exact Sb.refl | exact Sb.nil | (repeat (first | exact Sb.nil | exact Sb.refl | exact Sb.app0 | apply Sb.keep | apply Sb.keepApp | apply Sb.cons | apply Sb.app))), ?_⟩
        refine xm_gone 28 (m' := 536870911) rfl (by kernel_rfl) rfl rfl rfl (by kernel_rfl) (ef_call rfl (XF.mono (xf_dReceiver x.ss p1 x.bl.length c1 x.bl rfl hr1.nilL (by omega)) ?_))
        rintro v L' ⟨s14, k14, l14, rfl, hO14, rfl⟩
        refine xmx_seg [_, _, _, _, _, _, _, _, _] l14 _ ?_
        refine ⟨(by first | exact Sb.refl | exact Sb.nil | (repeat (first | exact Sb.nil | exact Sb.refl | exact Sb.app0 | apply Sb.keep | apply Sb.keepApp | apply Sb.cons | apply Sb.app))), ?_⟩
        refine xm_gone 29 (m' := 1073741823) rfl (by kernel_rfl) rfl rfl rfl (by kernel_rfl) (ef_call rfl (XF.mono (xf_sameReceiver x.ss _ _ _ _ _ x.bl rfl (hO13.rs (by intro z hz; simp [hz])) (hO14.rs (by intro z hz; simp [hz])) (by omega)) ?_))
        rintro v L' ⟨rfl, rfl⟩
        refine ⟨(by first | exact Sb.refl | exact Sb.nil | (repeat (first | exact Sb.nil | exact Sb.refl | exact Sb.app0 | apply Sb.keep | apply Sb.keepApp | apply Sb.cons | apply Sb.app))), ?_⟩
        refine xm_gtake 30 (m' := 2147483647) rfl (by kernel_rfl) (by first | exact Sb.refl | exact Sb.nil | (repeat (first | exact Sb.nil | exact Sb.refl | exact Sb.app0 | apply Sb.keep | apply Sb.keepApp | apply Sb.cons | apply Sb.app))) rfl rfl (rd_not rfl) rfl (by kernel_rfl) ?_
        refine xm_take 31 (m' := 4294967295) rfl (by kernel_rfl) (by first | exact Sb.refl | exact Sb.nil | (repeat (first | exact Sb.nil | exact Sb.refl | exact Sb.app0 | apply Sb.keep | apply Sb.keepApp | apply Sb.cons | apply Sb.app))) (rd_pickf rfl rfl) rfl (by kernel_rfl) ?_
        refine xm_done (by kernel_rfl) ?_
        refine xq_seq ?_
        refine xc_condf rfl ?_
        refine xc_skip ?_
      exact xq_sub (.cons _ (.cons _ (.cons_cons _ (.cons_cons _ (.cons_cons _ (.cons_cons _ (.cons_cons _ (.cons_cons _ (.cons_cons _ ((by repeat (first | exact List.Sublist.refl _ | refine List.Sublist.trans ?_ (List.sublist_append_right _ _))))))))))))) (xq_joined () trivial rfl (by repeat (first | exact keep_nil | refine keep_cons rfl ?_)))
    · focus
        refine xc_seq ?_
        refine xc_region ?_
        refine xo_rd (rd_move rfl) rfl ?_
        refine xo_rd (rd_eql rfl rfl) rfl ?_
        refine xo_nil ?_
        refine xq_seq ?_
        refine xc_dec rfl (fun hq1 => (by exfalso; omega)) (fun hq1 => ?_)
        refine xc_skip ?_
      exact xq_joined () trivial rfl (by repeat (first | exact keep_nil | refine keep_cons rfl ?_))
  · rintro _ _
    refine xc_join (ι := Unit) (fun _ => True) (fun _ => (r14, .cells x4.enc.toArray 35 (0, 0)) :: (r12, .cells x3.enc.toArray 35 (0, 0)) :: (r10, .cells x2.enc.toArray 35 (0, 0)) :: (r8, .cells x1.enc.toArray 35 (0, 0)) :: (r7, .cells #[.int .u32 x.ss, .slice p1 x.bl.length c1] 60 (0, 0)) :: (r5, .cells (z.enc (.slice p3 z.so.length c3)).toArray 57 (0, 0)) :: (r3, .cells (x.enc (.slice p1 x.bl.length c1)).toArray 53 (0, 0)) :: G) (fun _ => [(1, .slice p2 n c2), (5, .pointer (some ⟨r5, 0, none⟩)), (12, .pointer (some ⟨r12, 0, none⟩)), (13, .int .i64 e3), (14, .pointer (some ⟨r14, 0, none⟩)), (15, .int .i64 e4)]) ?_ ?_
    · by_cases h0 : e3 = 0
      · subst h0
        obtain ⟨of3, R3, _⟩ := ofCh_put hu2 hz3
        subst hxs
        focus
          refine xc_seq ?_
          refine xc_region ?_
          refine xo_rd (rd_move rfl) rfl ?_
          refine xo_rd (rd_eql rfl rfl) rfl ?_
          refine xo_nil ?_
          refine xq_seq ?_
          refine xc_condt rfl ?_
          refine xc_seq ?_
          refine xc_region ?_
          refine xo_rd (rd_loadB rfl Kn.o1 (by rfl)) rfl ?_
          refine xo_ef rfl (ef_call rfl (XF.mono (xg_ofChunks x3 xs of3 (b3.mono (by intro z hz; simp [hz])) g3 k3 (by omega)) ?_))
          rintro v L' ⟨s9, k9, l9, rfl, hO9, rfl⟩
          refine xo_seg [_, _, _, _, _, _, _] l9 _ ?_
          refine xo_rd (rd_move rfl) rfl ?_
          refine xo_rd (rd_extract rfl rfl) rfl ?_
          refine xo_rd (rd_extract rfl rfl) rfl ?_
          refine xo_rd (rd_assign rfl) rfl ?_
          refine xo_rd (rd_assign rfl) rfl ?_
          refine xo_nil ?_
          refine xq_seq ?_
          refine xc_seq ?_
          refine xc_region ?_
          refine xo_rd (rd_loadB rfl Kn.o1 (by rfl)) rfl ?_
          refine xo_ef rfl (ef_call rfl (XF.mono (xf_rightP x3 true (decide_eq_true R3) g3 (by omega)) ?_))
          rintro v L' ⟨rfl, rfl⟩
          refine xo_rd (rd_not rfl) rfl ?_
          refine xo_rd (rd_move rfl) rfl ?_
          refine xo_grd rfl rfl (rd_move rfl) rfl ?_
          refine xo_grd rfl rfl (rd_neq rfl rfl) rfl ?_
          refine xo_rd (rd_pickf rfl rfl) rfl ?_
          refine xo_rd (rd_move rfl) rfl ?_
          refine xo_grd rfl rfl (rd_move rfl) rfl ?_
          refine xo_grd rfl rfl (rd_move rfl) rfl ?_
          refine xo_gef rfl rfl rfl (ef_call rfl (XF.mono (xf_dChunks p2 xs.length c2 xs rfl hr2.nilL (by omega)) ?_))
          rintro v L' ⟨s10, k10, l10, rfl, hO10, rfl⟩
          refine xo_seg [_, _, _, _, _, _, _] l10 _ ?_
          refine xo_gef rfl rfl rfl (ef_call rfl (XF.mono (xf_sameChunks _ _ xs.length _ _ xs rfl (hO9.rs (by intro z hz; simp [hz])) (hO10.rs (by intro z hz; simp [hz])) (by omega)) ?_))
          rintro v L' ⟨rfl, rfl⟩
          refine xo_grd rfl rfl (rd_not rfl) rfl ?_
          refine xo_rd (rd_pickf rfl rfl) rfl ?_
          refine xo_nil ?_
          refine xq_seq ?_
          refine xc_condf rfl ?_
          refine xc_skip ?_
        exact xq_sub (.cons_cons _ (.cons_cons _ (.cons_cons _ (.cons_cons _ (.cons_cons _ (.cons_cons _ (.cons_cons _ ((by repeat (first | exact List.Sublist.refl _ | refine List.Sublist.trans ?_ (List.sublist_append_right _ _))))))))))) (xq_joined () trivial rfl (by repeat (first | exact keep_nil | refine keep_cons rfl ?_)))
      · focus
          refine xc_seq ?_
          refine xc_region ?_
          refine xo_rd (rd_move rfl) rfl ?_
          refine xo_rd (rd_eql rfl rfl) rfl ?_
          refine xo_nil ?_
          refine xq_seq ?_
          refine xc_dec rfl (fun hq1 => (by exfalso; omega)) (fun hq1 => ?_)
          refine xc_skip ?_
        exact xq_joined () trivial rfl (by repeat (first | exact keep_nil | refine keep_cons rfl ?_))
    · rintro _ _
      refine xc_join (ι := Unit) (fun _ => True) (fun _ => []) (fun _ => []) ?_ ?_
      · by_cases h0 : e4 = 0
        · subst h0
          obtain ⟨of4, R4, _⟩ := ofBy_put hu3 hz4
          focus
            refine xc_seq ?_
            refine xc_region ?_
            refine xo_rd (rd_move rfl) rfl ?_
            refine xo_rd (rd_eql rfl rfl) rfl ?_
            refine xo_nil ?_
            refine xq_seq ?_
            refine xc_condt rfl ?_
            refine xc_seq ?_
            refine xc_region ?_
            refine xo_rd (rd_loadB rfl Kn.o0 (by rfl)) rfl ?_
            refine xo_ef rfl (ef_call rfl (XF.mono (xg_ofBye x4 z of4 (b4.mono (by intro z hz; simp [hz])) g4 k4 (by omega)) ?_))
            rintro v L' ⟨s9, k9, l9, rfl, hO9, rfl⟩
            refine xo_seg [_, _, _, _, _, _, _] l9 _ ?_
            refine xo_rd (rd_move rfl) rfl ?_
            refine xo_rd (rd_extract rfl rfl) rfl ?_
            refine xo_rd (rd_extract rfl rfl) rfl ?_
            refine xo_ef rfl (ef_alloc fun r30 => ?_)
            refine xo_ef rfl (ef_storeB [] _ rfl rfl (by first | rfl | assumption) rfl rfl rfl ?_)
            refine xo_rd (rd_assign rfl) rfl ?_
            refine xo_nil ?_
            refine xq_seq ?_
          focus
            refine xc_seq ?_
            refine xc_drawM [0, 1, 2, 6, 8, 24, 40, 72, 128, 128, 640, 1408, 2176, 4224] [0, 1, 2, 6, 8, 24, 40, 72, 128, 128, 640, 1408, 2176, 4224] ([(r30, .cells (z.enc (.slice s9 z.so.length k9)).toArray 57 (0, 0)), (r14, .cells x4.enc.toArray 35 (0, 0)), (r12, .cells x3.enc.toArray 35 (0, 0)), (r10, .cells x2.enc.toArray 35 (0, 0)), (r8, .cells x1.enc.toArray 35 (0, 0)), (r7, .cells #[.int .u32 x.ss, .slice p1 x.bl.length c1] 60 (0, 0)), (r5, .cells (z.enc (.slice p3 z.so.length c3)).toArray 57 (0, 0)), (r3, .cells (x.enc (.slice p1 x.bl.length c1)).toArray 53 (0, 0))]) (by kernel_rfl) (by kernel_rfl) (by kernel_rfl) ?_
            refine xm_take 0 (m' := 1) rfl (by kernel_rfl) (by first | exact Sb.refl | exact Sb.nil | (repeat (first | exact Sb.nil | exact Sb.refl | exact Sb.app0 | apply Sb.keep | apply Sb.keepApp | apply Sb.cons | apply Sb.app))) (rd_loadB rfl Kn.o1 (by rfl)) rfl (by kernel_rfl) ?_
            refine xm_one 1 (m' := 3) rfl (by kernel_rfl) rfl (by kernel_rfl) (ef_call rfl (XF.mono (xf_rightP x4 true (decide_eq_true R4) g4 (by omega)) ?_))
            rintro v L' ⟨rfl, rfl⟩
            refine ⟨(by first | exact Sb.refl | exact Sb.nil | (repeat (first | exact Sb.nil | exact Sb.refl | exact Sb.app0 | apply Sb.keep | apply Sb.keepApp | apply Sb.cons | apply Sb.app))), ?_⟩
            refine xm_take 2 (m' := 7) rfl (by kernel_rfl) (by first | exact Sb.refl | exact Sb.nil | (repeat (first | exact Sb.nil | exact Sb.refl | exact Sb.app0 | apply Sb.keep | apply Sb.keepApp | apply Sb.cons | apply Sb.app))) (rd_not rfl) rfl (by kernel_rfl) ?_
            refine xm_take 3 (m' := 15) rfl (by kernel_rfl) (by first | exact Sb.refl | exact Sb.nil | (repeat (first | exact Sb.nil | exact Sb.refl | exact Sb.app0 | apply Sb.keep | apply Sb.keepApp | apply Sb.cons | apply Sb.app))) (rd_move rfl) rfl (by kernel_rfl) ?_
            refine xm_gtake 4 (m' := 31) rfl (by kernel_rfl) (by first | exact Sb.refl | exact Sb.nil | (repeat (first | exact Sb.nil | exact Sb.refl | exact Sb.app0 | apply Sb.keep | apply Sb.keepApp | apply Sb.cons | apply Sb.app))) rfl rfl (rd_move rfl) rfl (by kernel_rfl) ?_
            refine xm_gtake 5 (m' := 63) rfl (by kernel_rfl) (by first | exact Sb.refl | exact Sb.nil | (repeat (first | exact Sb.nil | exact Sb.refl | exact Sb.app0 | apply Sb.keep | apply Sb.keepApp | apply Sb.cons | apply Sb.app))) rfl rfl (rd_neq rfl rfl) rfl (by kernel_rfl) ?_
            refine xm_take 6 (m' := 127) rfl (by kernel_rfl) (by first | exact Sb.refl | exact Sb.nil | (repeat (first | exact Sb.nil | exact Sb.refl | exact Sb.app0 | apply Sb.keep | apply Sb.keepApp | apply Sb.cons | apply Sb.app))) (rd_pickf rfl rfl) rfl (by kernel_rfl) ?_
            refine xm_take 7 (m' := 255) rfl (by kernel_rfl) (by first | exact Sb.refl | exact Sb.nil | (repeat (first | exact Sb.nil | exact Sb.refl | exact Sb.app0 | apply Sb.keep | apply Sb.keepApp | apply Sb.cons | apply Sb.app))) (rd_move rfl) rfl (by kernel_rfl) ?_
            refine xm_gtake 8 (m' := 511) rfl (by kernel_rfl) (by first | exact Sb.refl | exact Sb.nil | (repeat (first | exact Sb.nil | exact Sb.refl | exact Sb.app0 | apply Sb.keep | apply Sb.keepApp | apply Sb.cons | apply Sb.app))) rfl rfl (rd_loadB rfl Kn.o0 (by rfl)) rfl (by kernel_rfl) ?_
            refine xm_gtake 9 (m' := 1023) rfl (by kernel_rfl) (by first | exact Sb.refl | exact Sb.nil | (repeat (first | exact Sb.nil | exact Sb.refl | exact Sb.app0 | apply Sb.keep | apply Sb.keepApp | apply Sb.cons | apply Sb.app))) rfl rfl (rd_loadB rfl Kn.o6 (by rfl)) rfl (by kernel_rfl) ?_
            refine xm_gone 10 (m' := 2047) rfl (by kernel_rfl) rfl rfl rfl (by kernel_rfl) (ef_call rfl (XF.mono (xf_dBye z p3 c3 hr3.nilL (by omega)) ?_))
            rintro v L' ⟨s10, k10, l10, rfl, hO10, rfl⟩
            refine xmx_seg [_, _, _, _, _, _, _, _] l10 _ ?_
            refine ⟨(by first | exact Sb.refl | exact Sb.nil | (repeat (first | exact Sb.nil | exact Sb.refl | exact Sb.app0 | apply Sb.keep | apply Sb.keepApp | apply Sb.cons | apply Sb.app))), ?_⟩
            refine xm_gone 11 (m' := 4095) rfl (by kernel_rfl) rfl rfl rfl (by kernel_rfl) (ef_call rfl (XF.mono (xf_sameBye z _ _ _ _ (hO9.rs (by intro z hz; simp [hz])) (hO10.rs (by intro z hz; simp [hz])) (by omega)) ?_))
            rintro v L' ⟨rfl, rfl⟩
            refine ⟨(by first | exact Sb.refl | exact Sb.nil | (repeat (first | exact Sb.nil | exact Sb.refl | exact Sb.app0 | apply Sb.keep | apply Sb.keepApp | apply Sb.cons | apply Sb.app))), ?_⟩
            refine xm_gtake 12 (m' := 8191) rfl (by kernel_rfl) (by first | exact Sb.refl | exact Sb.nil | (repeat (first | exact Sb.nil | exact Sb.refl | exact Sb.app0 | apply Sb.keep | apply Sb.keepApp | apply Sb.cons | apply Sb.app))) rfl rfl (rd_not rfl) rfl (by kernel_rfl) ?_
            refine xm_take 13 (m' := 16383) rfl (by kernel_rfl) (by first | exact Sb.refl | exact Sb.nil | (repeat (first | exact Sb.nil | exact Sb.refl | exact Sb.app0 | apply Sb.keep | apply Sb.keepApp | apply Sb.cons | apply Sb.app))) (rd_pickf rfl rfl) rfl (by kernel_rfl) ?_
            refine xm_done (by kernel_rfl) ?_
            refine xq_seq ?_
            refine xc_condf rfl ?_
            refine xc_skip ?_
          exact xq_sub (List.nil_sublist _) (xq_joined () trivial rfl (by repeat (first | exact keep_nil | refine keep_cons rfl ?_)))
        · focus
            refine xc_seq ?_
            refine xc_region ?_
            refine xo_rd (rd_move rfl) rfl ?_
            refine xo_rd (rd_eql rfl rfl) rfl ?_
            refine xo_nil ?_
            refine xq_seq ?_
            refine xc_dec rfl (fun hq1 => (by exfalso; omega)) (fun hq1 => ?_)
            refine xc_skip ?_
          exact xq_sub (List.nil_sublist _) (xq_joined () trivial rfl (by repeat (first | exact keep_nil | refine keep_cons rfl ?_)))
      · rintro _ _
        focus
          refine xc_seq ?_
          refine xc_region ?_
          refine xo_ef rfl (ef_call rfl (XF.mono (xf_any (fun W => xf_works)) ?_))
          rintro v L' ⟨rfl, rfl⟩
          refine xo_rd (rd_assign rfl) rfl ?_
          refine xo_nil ?_
          refine xq_seq ?_
          refine xc_ret ?_
          exact xq_ret1 (.inl rfl) Try.results6 rfl (rfl)
end Go.Proofs.Ytohlaabclifbfaa.X
