/-
  Senders, receivers and who goes are put: walks of my own.
-/
import Derived.Test.YtohlaabclifbfaaE1
namespace Go.Proofs.Ytohlaabclifbfaa.X
open Go Go.RowKit
set_option linter.unusedVariables false
set_option linter.unusedSimpArgs false
def byeB (x : By') : List Int := if x.re.size = 0 then x.so.flatMap be4 else fil (x.so.flatMap be4 ++ [(x.re.size : Int)] ++ sbs x.re)
def putBy (x : By') : Pc × Int := if 31 < x.so.length ∨ 255 < x.re.size then (.zero, 2) else (⟨x.so.length, 203, byeB x, 0⟩, 0)
set_option maxHeartbeats 8000000 in
theorem xf_bye {W : World} {L : List Blk} (x : By') (p : Option Addr) (c : Nat) (hr : Rs W L p (ints .u32 x.so)) (hu : ∀ z, z ∈ x.so → U4 z) (hn : x.so.length ≤ 9223372036854775807) (hm : x.re.size ≤ 9223372036854775807) :
    XF Try.prog W 27 #[.agg (x.enc (.slice p x.so.length c)).toArray] L (PuM L (putBy x)) := by
  refine xf_enter (args := [_]) Try.func27 rfl Try.ntmps27 rfl ?_
  obtain ⟨so, re⟩ := x
  unfold By'.enc putBy byeB
  dsimp only at hr hu hn hm ⊢
  by_cases hbad : 31 < so.length ∨ 255 < re.size
  · rw [if_pos hbad]
    focus
      refine xc_seq ?_
      refine xc_region ?_
      refine xo_ef rfl (ef_box rfl fun r1 => ?_)
      refine xo_ef rfl (ef_alloc fun r2 => ?_)
      refine xo_rd (rd_assign rfl) rfl ?_
      refine xo_nil ?_
      refine xq_seq ?_
      refine xc_seq ?_
      refine xc_seq ?_
      refine xc_region ?_
      refine xo_rd (rd_fieldAddr rfl) rfl ?_
      refine xo_rd (rd_load1 rfl (Cl.o1 rfl)) rfl ?_
      refine xo_rd (rd_len rfl) rfl ?_
      refine xo_rd (rd_gtr rfl rfl) rfl ?_
      refine xo_rd (rd_move rfl) rfl ?_
      refine xo_dec 9 rfl (fun hq1 => ?_) (fun hq1 => ?_)
      refine xo_gskip rfl rfl rfl rfl ?_
      refine xo_gskip rfl rfl rfl rfl ?_
      refine xo_gskip rfl rfl rfl rfl ?_
      refine xo_gskip rfl rfl rfl rfl ?_
      refine xo_rd (rd_pickt rfl rfl) rfl ?_
      refine xo_nil ?_
      refine xq_seq ?_
      refine xc_condt rfl ?_
      refine xc_seq ?_
      refine xc_region ?_
      refine xo_rd (rd_build rfl rfl rfl) rfl ?_
      refine xo_ef rfl (ef_storeB [] _ rfl rfl (by first | rfl | assumption) rfl rfl rfl ?_)
      refine xo_rd (rd_assign rfl) rfl ?_
      refine xo_nil ?_
      refine xq_seq ?_
      refine xc_ret ?_
      refine xq_then_ret ?_
      rotate_left
      refine xo_grd rfl rfl (rd_fieldAddr rfl) rfl ?_
      refine xo_grd rfl rfl (rd_load1 rfl (Cl.o1 rfl)) rfl ?_
      refine xo_grd rfl rfl (rd_lenStr rfl) rfl ?_
      refine xo_grd rfl rfl (rd_gtr rfl rfl) rfl ?_
      refine xo_rd (rd_pickf rfl rfl) rfl ?_
      refine xo_nil ?_
      refine xq_seq ?_
      refine xc_dec rfl (fun hq2 => ?_) (fun hq2 => (by exfalso; omega))
      refine xc_seq ?_
      refine xc_region ?_
      refine xo_rd (rd_build rfl rfl rfl) rfl ?_
      refine xo_ef rfl (ef_storeB [] _ rfl rfl (by first | rfl | assumption) rfl rfl rfl ?_)
      refine xo_rd (rd_assign rfl) rfl ?_
      refine xo_nil ?_
      refine xq_seq ?_
      refine xc_ret ?_
      refine xq_then_ret ?_
      rotate_left
    all_goals exact xq_retB2 (.inl rfl) Try.results27 rfl rfl Kn.o0 rfl (.cons _ (List.sublist_cons_self _ _)) (PuM.err 2)
  · rw [if_neg hbad]
    focus
      refine xc_seq ?_
      refine xc_region ?_
      refine xo_ef rfl (ef_box rfl fun r1 => ?_)
      refine xo_ef rfl (ef_alloc fun r2 => ?_)
      refine xo_rd (rd_assign rfl) rfl ?_
      refine xo_nil ?_
      refine xq_seq ?_
      refine xc_seq ?_
      refine xc_seq ?_
      refine xc_region ?_
      refine xo_rd (rd_fieldAddr rfl) rfl ?_
      refine xo_rd (rd_load1 rfl (Cl.o1 rfl)) rfl ?_
      refine xo_rd (rd_len rfl) rfl ?_
      refine xo_rd (rd_gtr rfl rfl) rfl ?_
      refine xo_rd (rd_move rfl) rfl ?_
      refine xo_dec 9 rfl (fun hq1 => (by exfalso; omega)) (fun hq1 => ?_)
      refine xo_grd rfl rfl (rd_fieldAddr rfl) rfl ?_
      refine xo_grd rfl rfl (rd_load1 rfl (Cl.o1 rfl)) rfl ?_
      refine xo_grd rfl rfl (rd_lenStr rfl) rfl ?_
      refine xo_grd rfl rfl (rd_gtr rfl rfl) rfl ?_
      refine xo_rd (rd_pickf rfl rfl) rfl ?_
      refine xo_nil ?_
      refine xq_seq ?_
      refine xc_dec rfl (fun hq2 => (by exfalso; omega)) (fun hq2 => ?_)
      refine xc_skip ?_
      refine xq_seq ?_
      refine xc_seq ?_
      refine xc_region ?_
      refine xo_rd (rd_fieldAddr rfl) rfl ?_
      refine xo_rd (rd_load1 rfl (Cl.o1 rfl)) rfl ?_
      refine xo_ef rfl (ef_call rfl (XF.mono (xf_long p so.length c so rfl (hr.mono (by intro z hz; simp [hz])) hu (by omega)) ?_))
      rintro v L' ⟨s, k, l, rfl, hO, rfl⟩
      refine xo_perm (perm_in2 l L) ?_
      refine xo_rd (rd_assign rfl) rfl ?_
      refine xo_nil ?_
      refine xq_seq ?_
    by_cases h0 : re.size = 0
    · rw [if_pos h0]
      obtain rfl := nm_size0.1 h0
      focus
        refine xc_seq ?_
        refine xc_seq ?_
        refine xc_region ?_
        refine xo_rd (rd_fieldAddr rfl) rfl ?_
        refine xo_rd (rd_load1 rfl (Cl.o1 rfl)) rfl ?_
        refine xo_rd (rd_cast (v' := .bool false) (rd_nes rfl rfl) (congrArg Value.bool (show (!decide ((⟨#[]⟩ : ByteArray) = ⟨#[]⟩)) = false from by rw [decide_eq_true rfl]; rfl))) rfl ?_
        refine xo_nil ?_
        refine xq_seq ?_
        refine xc_condf rfl ?_
        refine xc_skip ?_
        refine xq_seq ?_
        refine xc_seq ?_
        refine xc_region ?_
        refine xo_rd (rd_fieldAddr rfl) rfl ?_
        refine xo_rd (rd_load1 rfl (Cl.o1 rfl)) rfl ?_
        refine xo_rd (rd_len rfl) rfl ?_
        refine xo_rd (rd_convn rfl (by omega) (by omega)) rfl ?_
        refine xo_rd (rd_move rfl) rfl ?_
        refine xo_rd (rd_build rfl rfl rfl) rfl ?_
        refine xo_ef rfl (ef_storeB [] _ rfl rfl (by first | rfl | assumption) rfl rfl rfl ?_)
        refine xo_rd (rd_assign rfl) rfl ?_
        refine xo_nil ?_
        refine xq_seq ?_
        refine xc_ret ?_
      refine xq_retB2 (.inl rfl) Try.results27 rfl rfl Kn.o0 rfl ((List.sublist_cons_self _ _).trans (List.sublist_cons_self _ _)) ⟨⟨⟨so.length, 203, so.flatMap be4, 0⟩, s, k, l⟩, ?_, rfl, ?_, rfl⟩
      · unfold Pb.enc Pc.enc; dsimp only; rw [flat4_len]; rfl
      · unfold Pb.Ok; dsimp only; rw [flat4_len]; exact hO
    · rw [if_neg h0]
      have hnm : ¬ re = ⟨#[]⟩ := fun h => h0 (nm_size0.2 h)
      have hT : ∀ s5 k5 l5, SlO 1 5 (.slice s5 (4 * so.length + 1 + re.size) k5) (4 * so.length + 1 + re.size) (ints .u8 (so.flatMap be4) ++ [.int .u8 re.size] ++ ints .u8 (sbs re)) l5 → SlO 1 5 (.slice s5 (4 * so.length + 1 + re.size) k5) (4 * so.length + 1 + re.size) (ints .u8 (so.flatMap be4 ++ [(re.size : Int)] ++ sbs re)) l5 := fun _ _ _ h => by
        rw [ints_app, ints_app]; exact h
      focus
        refine xc_seq ?_
        refine xc_seq ?_
        refine xc_region ?_
        refine xo_rd (rd_fieldAddr rfl) rfl ?_
        refine xo_rd (rd_load1 rfl (Cl.o1 rfl)) rfl ?_
        refine xo_rd (rd_cast (v' := .bool true) (rd_nes rfl rfl) (congrArg Value.bool (show (!decide (re = ⟨#[]⟩)) = true from by rw [decide_eq_false hnm]; rfl))) rfl ?_
        refine xo_nil ?_
        refine xq_seq ?_
        refine xc_condt rfl ?_
        refine xc_drawM [0, 0, 2, 4, 8, 16, 33, 0, 128, 320, 512, 2047] [0, 0, 2, 4, 8, 16, 33, 0, 128, 320, 512, 2047] ([(r1, .cells #[.slice p so.length c, .string re] 57 (0, 0))]) (by kernel_rfl) (by kernel_rfl) (by kernel_rfl) ?_
        refine xm_take 0 (m' := 1) rfl (by kernel_rfl) (by first | exact Sb.refl | exact Sb.nil | (repeat (first | exact Sb.nil | exact Sb.refl | exact Sb.app0 | apply Sb.keep | apply Sb.keepApp | apply Sb.cons | apply Sb.app))) (rd_move rfl) rfl (by kernel_rfl) ?_
        refine xm_take 1 (m' := 3) rfl (by kernel_rfl) (by first | exact Sb.refl | exact Sb.nil | (repeat (first | exact Sb.nil | exact Sb.refl | exact Sb.app0 | apply Sb.keep | apply Sb.keepApp | apply Sb.cons | apply Sb.app))) (rd_fieldAddr rfl) rfl (by kernel_rfl) ?_
        refine xm_take 2 (m' := 7) rfl (by kernel_rfl) (by first | exact Sb.refl | exact Sb.nil | (repeat (first | exact Sb.nil | exact Sb.refl | exact Sb.app0 | apply Sb.keep | apply Sb.keepApp | apply Sb.cons | apply Sb.app))) (rd_load1 rfl (Cl.o0 rfl)) rfl (by kernel_rfl) ?_
        refine xm_take 3 (m' := 15) rfl (by kernel_rfl) (by first | exact Sb.refl | exact Sb.nil | (repeat (first | exact Sb.nil | exact Sb.refl | exact Sb.app0 | apply Sb.keep | apply Sb.keepApp | apply Sb.cons | apply Sb.app))) (rd_lenStr rfl) rfl (by kernel_rfl) ?_
        refine xm_take 4 (m' := 31) rfl (by kernel_rfl) (by first | exact Sb.refl | exact Sb.nil | (repeat (first | exact Sb.nil | exact Sb.refl | exact Sb.app0 | apply Sb.keep | apply Sb.keepApp | apply Sb.cons | apply Sb.app))) (rd_convn rfl (by omega) (by omega)) rfl (by kernel_rfl) ?_
        refine xm_take 7 (m' := 159) rfl (by kernel_rfl) (by first | exact Sb.refl | exact Sb.nil | (repeat (first | exact Sb.nil | exact Sb.refl | exact Sb.app0 | apply Sb.keep | apply Sb.keepApp | apply Sb.cons | apply Sb.app))) (rd_fieldAddr rfl) rfl (by kernel_rfl) ?_
        refine xm_take 8 (m' := 415) rfl (by kernel_rfl) (by first | exact Sb.refl | exact Sb.nil | (repeat (first | exact Sb.nil | exact Sb.refl | exact Sb.app0 | apply Sb.keep | apply Sb.keepApp | apply Sb.cons | apply Sb.app))) (rd_load1 rfl (Cl.o0 rfl)) rfl (by kernel_rfl) ?_
        refine xm_one 5 (m' := 447) rfl (by kernel_rfl) rfl (by kernel_rfl) (ef_slice1 rfl rfl rfl fun r40 => ?_)
        refine ⟨(by first | exact Sb.refl | exact Sb.nil | (repeat (first | exact Sb.nil | exact Sb.refl | exact Sb.app0 | apply Sb.keep | apply Sb.keepApp | apply Sb.cons | apply Sb.app))), ?_⟩
        refine xm_one 6 (m' := 511) rfl (by kernel_rfl) rfl (by kernel_rfl) (ef_appendS [_, _, _] _ l (news := [.int .u8 re.size]) rfl rfl hO rfl (Rs.fresh (List.Mem.head _)) rfl rfl (by decide) (by omega) (by omega) fun s3 k3 l3 hO3 hk3 => ?_)
        refine ⟨(by first | exact Sb.refl | exact Sb.nil | (repeat (first | exact Sb.nil | exact Sb.refl | exact Sb.app0 | apply Sb.keep | apply Sb.keepApp | apply Sb.cons | apply Sb.app))), ?_⟩
        refine xm_one 9 (m' := 1023) rfl (by kernel_rfl) rfl (by kernel_rfl) (ef_appendT [_, _, _] _ l3 rfl rfl hO3 rfl rfl (by omega) (by omega) fun s5 k5 l5 hO5 hk5 => ?_)
        refine ⟨(by first | exact Sb.refl | exact Sb.nil | (repeat (first | exact Sb.nil | exact Sb.refl | exact Sb.app0 | apply Sb.keep | apply Sb.keepApp | apply Sb.cons | apply Sb.app))), ?_⟩
        refine xm_one 10 (m' := 2047) rfl (by kernel_rfl) rfl (by kernel_rfl) (ef_call rfl (XF.mono (XF.seg [_, _, _] l5 L (xf_filled _ (4 * so.length + 1 + re.size) (so.flatMap be4 ++ [(re.size : Int)] ++ sbs re) l5 (hT _ _ _ hO5) (by omega))) ?_))
        rintro v L' ⟨s7, k7, l7, rfl, hO7, rfl⟩
        refine xmx_seg [_, _, _] l7 L ?_
        refine ⟨(by first | exact Sb.refl | exact Sb.nil | (repeat (first | exact Sb.nil | exact Sb.refl | exact Sb.app0 | apply Sb.keep | apply Sb.keepApp | apply Sb.cons | apply Sb.app))), ?_⟩
        refine xm_take 11 (m' := 4095) rfl (by kernel_rfl) (by first | exact Sb.refl | exact Sb.nil | (repeat (first | exact Sb.nil | exact Sb.refl | exact Sb.app0 | apply Sb.keep | apply Sb.keepApp | apply Sb.cons | apply Sb.app))) (rd_assign rfl) rfl (by kernel_rfl) ?_
        refine xm_done (by kernel_rfl) ?_
        refine xq_seq ?_
        refine xc_seq ?_
        refine xc_region ?_
        refine xo_rd (rd_fieldAddr rfl) rfl ?_
        refine xo_rd (rd_load1 rfl (Cl.o2 rfl)) rfl ?_
        refine xo_rd (rd_len rfl) rfl ?_
        refine xo_rd (rd_convn rfl (by omega) (by omega)) rfl ?_
        refine xo_rd (rd_move rfl) rfl ?_
        refine xo_rd (rd_build rfl rfl rfl) rfl ?_
        refine xo_ef rfl (ef_storeB [_] _ rfl rfl (by first | rfl | assumption) rfl rfl rfl ?_)
        refine xo_rd (rd_assign rfl) rfl ?_
        refine xo_nil ?_
        refine xq_seq ?_
        refine xc_ret ?_
      have hfl : (so.flatMap be4 ++ [(re.size : Int)] ++ sbs re).length = 4 * so.length + 1 + re.size := by simp only [List.length_append, flat4_len, sbs_len, List.length_singleton]
      have hfl2 : (fil (so.flatMap be4 ++ [(re.size : Int)] ++ sbs re)).length = 4 * so.length + 1 + re.size + (4 - (4 * so.length + 1 + re.size) % 4) % 4 := by rw [fil_len, hfl]
      all_goals refine xq_sub (L' := (r2, .cells #[.int .u8 so.length, .int .u8 203, .slice s7 (4 * so.length + 1 + re.size + (4 - (4 * so.length + 1 + re.size) % 4) % 4) k7, .int .u8 0] 35 (0, 0)) :: (l7 ++ L)) ?_ (xq_retB2 (.inl rfl) Try.results27 rfl rfl Kn.o0 rfl (List.sublist_cons_self _ _) ⟨⟨⟨so.length, 203, fil (so.flatMap be4 ++ [(re.size : Int)] ++ sbs re), 0⟩, s7, k7, l7⟩, ?_, rfl, ?_, rfl⟩)
      · exact .cons _ (.cons_cons _ (.cons _ (List.Sublist.refl _)))
      · unfold Pb.enc Pc.enc; dsimp only; rw [hfl2]
      · unfold Pb.Ok; dsimp only; rw [hfl2]; unfold fil; rw [hfl]; exact hO7
theorem xf_rblocks2 {W : World} {L : List Blk} (p : Option Addr) (n c : Nat) (xs : List Bk) (out : List Int) (ok : Bool) (hb : blkR xs = (out, ok)) (hx : xs.length = n) (hr : Rs W L p (xs.flatMap Bk.enc)) (hg : ∀ x, x ∈ xs → x.Rg) (hn : n ≤ 1000000) :
    XF Try.prog W 58 #[.slice p n c] L (fun v L' => ∃ s k l, v = .tuple #[.slice s out.length k, .bool ok] ∧ SlO 1 5 (.slice s out.length k) out.length (ints .u8 out) l ∧ L' = l ++ L) := by
  have := xf_rblocks p n c xs hx hr hg hn
  rwa [hb] at this
set_option maxHeartbeats 4000000 in
theorem xf_rreceiver {W : World} {L : List Blk} (ss : Int) (hs : U4 ss) (p : Option Addr) (n c : Nat) (xs : List Bk) (hx : xs.length = n) (hr : Rs W L p (xs.flatMap Bk.enc)) (hg : ∀ x, x ∈ xs → x.Rg) (hn : n ≤ 1000000) :
    XF Try.prog W 30 #[.agg #[.int .u32 ss, .slice p n c]] L (PuM L (rcvR ss xs)) := by
  refine xf_enter (args := [_]) Try.func30 rfl Try.ntmps30 rfl ?_
  obtain ⟨⟨out, ok⟩, hb⟩ : ∃ z, blkR xs = z := ⟨_, rfl⟩
  have hbo := blkR_ok (bl := xs)
  rw [hb] at hbo
  dsimp only at hbo
  unfold rcvR
  rw [hb]
  dsimp only
  cases ok with
  | false =>
    rw [if_neg (by decide)]
    focus
      refine xc_seq ?_
      refine xc_region ?_
      refine xo_ef rfl (ef_box rfl fun r1 => ?_)
      refine xo_ef rfl (ef_alloc fun r2 => ?_)
      refine xo_rd (rd_assign rfl) rfl ?_
      refine xo_nil ?_
      refine xq_seq ?_
      refine xc_seq ?_
      refine xc_region ?_
      refine xo_rd (rd_fieldAddr rfl) rfl ?_
      refine xo_rd (rd_load1 rfl (Cl.o1 rfl)) rfl ?_
      refine xo_ef rfl (ef_call rfl (XF.mono (xf_rblocks2 p n c xs out _ hb hx (hr.mono (by intro z hz; simp [hz])) hg hn) ?_))
      rintro v L' ⟨s, k, lb, rfl, hO, rfl⟩
      refine xo_perm (perm_in2 lb L) ?_
      refine xo_rd (rd_move rfl) rfl ?_
      refine xo_rd (rd_extract rfl rfl) rfl ?_
      refine xo_rd (rd_extract rfl rfl) rfl ?_
      refine xo_rd (rd_assign rfl) rfl ?_
      refine xo_rd (rd_assign rfl) rfl ?_
      refine xo_nil ?_
      refine xq_seq ?_
      refine xc_seq ?_
      refine xc_seq ?_
      refine xc_region ?_
      refine xo_rd (rd_move rfl) rfl ?_
      refine xo_rd (rd_not rfl) rfl ?_
      refine xo_nil ?_
      refine xq_seq ?_
      refine xc_condt rfl ?_
      refine xc_seq ?_
      refine xc_region ?_
      refine xo_rd (rd_build rfl rfl rfl) rfl ?_
      refine xo_ef rfl (ef_storeB [] _ rfl rfl (by first | rfl | assumption) rfl rfl rfl ?_)
      refine xo_rd (rd_assign rfl) rfl ?_
      refine xo_nil ?_
      refine xq_seq ?_
      refine xc_ret ?_
      refine xq_then_ret ?_
    exact xq_retB2 (.inl rfl) Try.results30 rfl rfl Kn.o0 rfl ((List.sublist_append_right lb L).trans ((List.sublist_cons_self _ _).trans (List.sublist_cons_self _ _))) (PuM.err 2)
  | true =>
    obtain ⟨h31, ho, hfit⟩ := hbo rfl
    rw [if_pos rfl]
    have hol : out.length = 24 * n := by rw [ho, bkLs_len, hx]
    focus
      refine xc_seq ?_
      refine xc_region ?_
      refine xo_ef rfl (ef_box rfl fun r1 => ?_)
      refine xo_ef rfl (ef_alloc fun r2 => ?_)
      refine xo_rd (rd_assign rfl) rfl ?_
      refine xo_nil ?_
      refine xq_seq ?_
      refine xc_seq ?_
      refine xc_region ?_
      refine xo_rd (rd_fieldAddr rfl) rfl ?_
      refine xo_rd (rd_load1 rfl (Cl.o1 rfl)) rfl ?_
      refine xo_ef rfl (ef_call rfl (XF.mono (xf_rblocks2 p n c xs out _ hb hx (hr.mono (by intro z hz; simp [hz])) hg hn) ?_))
      rintro v L' ⟨s, k, lb, rfl, hO, rfl⟩
      refine xo_perm (perm_in2 lb L) ?_
      refine xo_rd (rd_move rfl) rfl ?_
      refine xo_rd (rd_extract rfl rfl) rfl ?_
      refine xo_rd (rd_extract rfl rfl) rfl ?_
      refine xo_rd (rd_assign rfl) rfl ?_
      refine xo_rd (rd_assign rfl) rfl ?_
      refine xo_nil ?_
      refine xq_seq ?_
      refine xc_seq ?_
      refine xc_seq ?_
      refine xc_region ?_
      refine xo_rd (rd_move rfl) rfl ?_
      refine xo_rd (rd_not rfl) rfl ?_
      refine xo_nil ?_
      refine xq_seq ?_
      refine xc_condf rfl ?_
      refine xc_skip ?_
      refine xq_seq ?_
      refine xc_seq ?_
      refine xc_drawM [0, 1, 2, 4, 0, 16, 32, 0, 192, 264, 1023, 2047] [0, 1, 2, 4, 0, 16, 32, 0, 192, 264, 1023, 2047] ([(r1, .cells #[.int .u32 ss, .slice p n c] 72 (0, 0))]) (by kernel_rfl) (by kernel_rfl) (by kernel_rfl) ?_
      refine xm_take 0 (m' := 1) rfl (by kernel_rfl) (by first | exact Sb.refl | exact Sb.nil | (repeat (first | exact Sb.nil | exact Sb.refl | exact Sb.app0 | apply Sb.keep | apply Sb.keepApp | apply Sb.cons | apply Sb.app))) (rd_fieldAddr rfl) rfl (by kernel_rfl) ?_
      refine xm_take 1 (m' := 3) rfl (by kernel_rfl) (by first | exact Sb.refl | exact Sb.nil | (repeat (first | exact Sb.nil | exact Sb.refl | exact Sb.app0 | apply Sb.keep | apply Sb.keepApp | apply Sb.cons | apply Sb.app))) (rd_load1 rfl (Cl.o0 rfl)) rfl (by kernel_rfl) ?_
      refine xm_take 2 (m' := 7) rfl (by kernel_rfl) (by first | exact Sb.refl | exact Sb.nil | (repeat (first | exact Sb.nil | exact Sb.refl | exact Sb.app0 | apply Sb.keep | apply Sb.keepApp | apply Sb.cons | apply Sb.app))) (rd_len rfl) rfl (by kernel_rfl) ?_
      refine xm_take 3 (m' := 15) rfl (by kernel_rfl) (by first | exact Sb.refl | exact Sb.nil | (repeat (first | exact Sb.nil | exact Sb.refl | exact Sb.app0 | apply Sb.keep | apply Sb.keepApp | apply Sb.cons | apply Sb.app))) (rd_convn rfl (by omega) (by omega)) rfl (by kernel_rfl) ?_
      refine xm_take 4 (m' := 31) rfl (by kernel_rfl) (by first | exact Sb.refl | exact Sb.nil | (repeat (first | exact Sb.nil | exact Sb.refl | exact Sb.app0 | apply Sb.keep | apply Sb.keepApp | apply Sb.cons | apply Sb.app))) (rd_fieldAddr rfl) rfl (by kernel_rfl) ?_
      refine xm_take 5 (m' := 63) rfl (by kernel_rfl) (by first | exact Sb.refl | exact Sb.nil | (repeat (first | exact Sb.nil | exact Sb.refl | exact Sb.app0 | apply Sb.keep | apply Sb.keepApp | apply Sb.cons | apply Sb.app))) (rd_load1 rfl (Cl.o0 rfl)) rfl (by kernel_rfl) ?_
      refine xm_take 7 (m' := 191) rfl (by kernel_rfl) (by first | exact Sb.refl | exact Sb.nil | (repeat (first | exact Sb.nil | exact Sb.refl | exact Sb.app0 | apply Sb.keep | apply Sb.keepApp | apply Sb.cons | apply Sb.app))) (rd_move rfl) rfl (by kernel_rfl) ?_
      refine xm_one 6 (m' := 255) rfl (by kernel_rfl) rfl (by kernel_rfl) (ef_call rfl (XF.mono (xf_rlg ss hs) ?_))
      rintro v L' ⟨s2, k2, l2, rfl, hO2, rfl⟩
      refine xmx_perm (perm_in2 l2 (lb ++ L)) ?_
      refine ⟨(by first | exact Sb.refl | exact Sb.nil | (repeat (first | exact Sb.nil | exact Sb.refl | exact Sb.app0 | apply Sb.keep | apply Sb.keepApp | apply Sb.cons | apply Sb.app))), ?_⟩
      refine xm_one 8 (m' := 511) rfl (by kernel_rfl) rfl (by kernel_rfl) (ef_appendS [_, _] (lb ++ L) l2 (news := ints .u8 out) rfl rfl hO2 rfl (hO.rs (by intro z hz; simp [hz])) (by rw [ints_len, Nat.mul_one]) (ints_one _ _) (by decide) (by omega) (by omega) fun s3 k3 l3 hO3 hk3 => ?_)
      refine ⟨(by first | exact Sb.refl | exact Sb.nil | (repeat (first | exact Sb.nil | exact Sb.refl | exact Sb.app0 | apply Sb.keep | apply Sb.keepApp | apply Sb.cons | apply Sb.app))), ?_⟩
      refine xm_take 9 (m' := 1023) rfl (by kernel_rfl) (by first | exact Sb.refl | exact Sb.nil | (repeat (first | exact Sb.nil | exact Sb.refl | exact Sb.app0 | apply Sb.keep | apply Sb.keepApp | apply Sb.cons | apply Sb.app))) (rd_build rfl rfl rfl) rfl (by kernel_rfl) ?_
      refine xm_one 10 (m' := 2047) rfl (by kernel_rfl) rfl (by kernel_rfl) (ef_storeB [] _ rfl rfl (by first | rfl | assumption) rfl rfl rfl ?_)
      refine ⟨(by first | exact Sb.refl | exact Sb.nil | (repeat (first | exact Sb.nil | exact Sb.refl | exact Sb.app0 | apply Sb.keep | apply Sb.keepApp | apply Sb.cons | apply Sb.app))), ?_⟩
      refine xm_take 11 (m' := 4095) rfl (by kernel_rfl) (by first | exact Sb.refl | exact Sb.nil | (repeat (first | exact Sb.nil | exact Sb.refl | exact Sb.app0 | apply Sb.keep | apply Sb.keepApp | apply Sb.cons | apply Sb.app))) (rd_assign rfl) rfl (by kernel_rfl) ?_
      refine xm_done (by kernel_rfl) ?_
      refine xq_seq ?_
      refine xc_ret ?_
    have hbl : ([ss].flatMap be4 ++ xs.flatMap bkL).length = 4 * 1 + out.length := by rw [List.length_append, flat4_len, ho]; rfl
    all_goals refine xq_retB2 (.inl rfl) Try.results30 rfl rfl Kn.o0 rfl ((List.Sublist.append_left (List.sublist_append_right lb L) l3).trans ((List.sublist_cons_self _ _).trans (List.sublist_cons_self _ _))) ⟨⟨⟨xs.length, 201, [ss].flatMap be4 ++ xs.flatMap bkL, 0⟩, s3, k3, l3⟩, ?_, rfl, ?_, rfl⟩
    all_goals first | (unfold Pb.enc Pc.enc; dsimp only; rw [hbl, hx]; rfl) | (unfold Pb.Ok; dsimp only; rw [hbl, ints_app, ← ho, List.flatMap_singleton]; exact hO3)
theorem beK_8 (n : Int) (h0 : 0 ≤ n) (h1 : n ≤ 18446744073709551615) : beK 8 n = be4 (n / 4294967296) ++ be4 (n % 4294967296) := by
  show [_, _, _, _, _, _, _, _] = _
  simp only [be4, List.cons_append, List.nil_append, List.cons.injEq, and_true]
  refine ⟨?_, ?_, ?_, ?_, ?_, ?_, ?_, ?_⟩ <;> omega
set_option maxHeartbeats 8000000 in
theorem xf_rsender {W : World} {L : List Blk} (x : Sn) (hx : x.Rg) (p : Option Addr) (c : Nat) (hr : Rs W L p (x.bl.flatMap Bk.enc)) (hn : x.bl.length ≤ 1000000) :
    XF Try.prog W 28 #[.agg (x.enc (.slice p x.bl.length c)).toArray] L (PuM L (sndR x)) := by
  refine xf_enter (args := [_]) Try.func28 rfl Try.ntmps28 rfl ?_
  have g1 := hx.ss; have g2 := hx.nt; have g3 := hx.rt; have g4 := hx.pk; have g5 := hx.oc; have hg := hx.bl
  obtain ⟨ss, nt, rt, pk, oc, xs⟩ := x
  dsimp only [Sn.nums] at hr hn g1 g2 g3 g4 g5 hg
  obtain ⟨⟨out, ok⟩, hb⟩ : ∃ z, blkR xs = z := ⟨_, rfl⟩
  have hbo := blkR_ok (bl := xs)
  rw [hb] at hbo
  dsimp only at hbo
  unfold sndR Sn.enc Sn.nums
  dsimp only
  rw [hb]
  dsimp only
  cases ok with
  | false =>
    rw [if_neg (by decide)]
    focus
      refine xc_seq ?_
      refine xc_region ?_
      refine xo_ef rfl (ef_box rfl fun r1 => ?_)
      refine xo_ef rfl (ef_alloc fun r2 => ?_)
      refine xo_rd (rd_assign rfl) rfl ?_
      refine xo_nil ?_
      refine xq_seq ?_
      refine xc_seq ?_
      refine xc_region ?_
      refine xo_rd (rd_fieldAddr rfl) rfl ?_
      refine xo_rd (rd_load1 rfl (Cl.o1 rfl)) rfl ?_
      refine xo_ef rfl (ef_call rfl (XF.mono (xf_rblocks2 p xs.length c xs out _ hb rfl (hr.mono (by intro z hz; simp [hz])) hg hn) ?_))
      rintro v L' ⟨s, k, lb, rfl, hO, rfl⟩
      refine xo_perm (perm_in2 lb L) ?_
      refine xo_rd (rd_move rfl) rfl ?_
      refine xo_rd (rd_extract rfl rfl) rfl ?_
      refine xo_rd (rd_extract rfl rfl) rfl ?_
      refine xo_rd (rd_assign rfl) rfl ?_
      refine xo_rd (rd_assign rfl) rfl ?_
      refine xo_nil ?_
      refine xq_seq ?_
      refine xc_seq ?_
      refine xc_seq ?_
      refine xc_region ?_
      refine xo_rd (rd_move rfl) rfl ?_
      refine xo_rd (rd_not rfl) rfl ?_
      refine xo_nil ?_
      refine xq_seq ?_
      refine xc_condt rfl ?_
      refine xc_seq ?_
      refine xc_region ?_
      refine xo_rd (rd_build rfl rfl rfl) rfl ?_
      refine xo_ef rfl (ef_storeB [] _ rfl rfl (by first | rfl | assumption) rfl rfl rfl ?_)
      refine xo_rd (rd_assign rfl) rfl ?_
      refine xo_nil ?_
      refine xq_seq ?_
      refine xc_ret ?_
      refine xq_then_ret ?_
    exact xq_retB2 (.inl rfl) Try.results28 rfl rfl Kn.o0 rfl ((List.sublist_append_right lb L).trans ((List.sublist_cons_self _ _).trans (List.sublist_cons_self _ _))) (PuM.err 2)
  | true =>
    obtain ⟨h31, ho, hfit⟩ := hbo rfl
    rw [if_pos rfl]
    have hol : out.length = 24 * xs.length := by rw [ho, bkLs_len]
    focus
      refine xc_seq ?_
      refine xc_region ?_
      refine xo_ef rfl (ef_box rfl fun r1 => ?_)
      refine xo_ef rfl (ef_alloc fun r2 => ?_)
      refine xo_rd (rd_assign rfl) rfl ?_
      refine xo_nil ?_
      refine xq_seq ?_
      refine xc_seq ?_
      refine xc_region ?_
      refine xo_rd (rd_fieldAddr rfl) rfl ?_
      refine xo_rd (rd_load1 rfl (Cl.o1 rfl)) rfl ?_
      refine xo_ef rfl (ef_call rfl (XF.mono (xf_rblocks2 p xs.length c xs out _ hb rfl (hr.mono (by intro z hz; simp [hz])) hg hn) ?_))
      rintro v L' ⟨s, k, lb, rfl, hO, rfl⟩
      refine xo_perm (perm_in2 lb L) ?_
      refine xo_rd (rd_move rfl) rfl ?_
      refine xo_rd (rd_extract rfl rfl) rfl ?_
      refine xo_rd (rd_extract rfl rfl) rfl ?_
      refine xo_rd (rd_assign rfl) rfl ?_
      refine xo_rd (rd_assign rfl) rfl ?_
      refine xo_nil ?_
      refine xq_seq ?_
      refine xc_seq ?_
      refine xc_seq ?_
      refine xc_region ?_
      refine xo_rd (rd_move rfl) rfl ?_
      refine xo_rd (rd_not rfl) rfl ?_
      refine xo_nil ?_
      refine xq_seq ?_
      refine xc_condf rfl ?_
      refine xc_skip ?_
      refine xq_seq ?_
      refine xc_seq ?_
      refine xc_region ?_
      refine xo_rd (rd_fieldAddr rfl) rfl ?_
      refine xo_rd (rd_load1 rfl (Cl.o1 rfl)) rfl ?_
      refine xo_ef rfl (ef_call rfl (XF.mono (xf_rlg ss g1) ?_))
      rintro v L' ⟨s3, k3, l3, rfl, hO3, rfl⟩
      refine xo_perm (perm_in2 l3 (lb ++ L)) ?_
      refine xo_rd (rd_assign rfl) rfl ?_
      refine xo_nil ?_
      refine xq_seq ?_
    focus
      refine xc_seq ?_
      refine xc_region ?_
      refine xo_rd (rd_move rfl) rfl ?_
      refine xo_rd (rd_fieldAddr rfl) rfl ?_
      refine xo_rd (rd_load1 rfl (Cl.o1 rfl)) rfl ?_
      refine xo_ef rfl (ef_call rfl (XF.mono (xf_bytes nt 8 g2.1 g2.2 (by decide)) ?_))
      rintro v L' ⟨s2, k2, l2, rfl, hO2, rfl⟩
      refine xo_perm (perm_p2 l2 l3 _) ?_
      refine xo_ef rfl (ef_appendS [_, _] _ l3 (news := ints .u8 (beK 8 nt)) rfl rfl hO3 rfl (hO2.rs (by intro z hz; simp [hz])) rfl rfl (by decide) (by omega) (by omega) fun s3 k3 l3 hO3 hk3 => ?_)
      refine xo_rd (rd_assign rfl) rfl ?_
      refine xo_nil ?_
      refine xq_seq ?_
      refine xc_seq ?_
      refine xc_region ?_
      refine xo_rd (rd_move rfl) rfl ?_
      refine xo_rd (rd_fieldAddr rfl) rfl ?_
      refine xo_rd (rd_load1 rfl (Cl.o1 rfl)) rfl ?_
      refine xo_ef rfl (ef_call rfl (XF.mono (xf_rlg _ (by assumption)) ?_))
      rintro v L' ⟨s2, k2, l2, rfl, hO2, rfl⟩
      refine xo_perm (perm_p2 l2 l3 _) ?_
      refine xo_ef rfl (ef_appendS [_, _] _ l3 (news := ints .u8 (be4 rt)) rfl rfl hO3 rfl (hO2.rs (by intro z hz; simp [hz])) rfl rfl (by decide) (by omega) (by omega) fun s3 k3 l3 hO3 hk3 => ?_)
      refine xo_rd (rd_assign rfl) rfl ?_
      refine xo_nil ?_
      refine xq_seq ?_
      refine xc_seq ?_
      refine xc_region ?_
      refine xo_rd (rd_move rfl) rfl ?_
      refine xo_rd (rd_fieldAddr rfl) rfl ?_
      refine xo_rd (rd_load1 rfl (Cl.o1 rfl)) rfl ?_
      refine xo_ef rfl (ef_call rfl (XF.mono (xf_rlg _ (by assumption)) ?_))
      rintro v L' ⟨s2, k2, l2, rfl, hO2, rfl⟩
      refine xo_perm (perm_p2 l2 l3 _) ?_
      refine xo_ef rfl (ef_appendS [_, _] _ l3 (news := ints .u8 (be4 pk)) rfl rfl hO3 rfl (hO2.rs (by intro z hz; simp [hz])) rfl rfl (by decide) (by omega) (by omega) fun s3 k3 l3 hO3 hk3 => ?_)
      refine xo_rd (rd_assign rfl) rfl ?_
      refine xo_nil ?_
      refine xq_seq ?_
      refine xc_seq ?_
      refine xc_region ?_
      refine xo_rd (rd_move rfl) rfl ?_
      refine xo_rd (rd_fieldAddr rfl) rfl ?_
      refine xo_rd (rd_load1 rfl (Cl.o1 rfl)) rfl ?_
      refine xo_ef rfl (ef_call rfl (XF.mono (xf_rlg _ (by assumption)) ?_))
      rintro v L' ⟨s2, k2, l2, rfl, hO2, rfl⟩
      refine xo_perm (perm_p2 l2 l3 _) ?_
      refine xo_ef rfl (ef_appendS [_, _] _ l3 (news := ints .u8 (be4 oc)) rfl rfl hO3 rfl (hO2.rs (by intro z hz; simp [hz])) rfl rfl (by decide) (by omega) (by omega) fun s3 k3 l3 hO3 hk3 => ?_)
      refine xo_rd (rd_assign rfl) rfl ?_
      refine xo_nil ?_
      refine xq_seq ?_
    focus
      refine xc_seq ?_
      refine xc_drawM [0, 1, 2, 4, 0, 0, 48, 72, 255, 511] [0, 1, 2, 4, 0, 0, 48, 72, 255, 511] ([(r1, .cells #[.int .u32 ss, .int .u64 nt, .int .u32 rt, .int .u32 pk, .int .u32 oc, .slice p xs.length c] 68 (0, 0))]) (by kernel_rfl) (by kernel_rfl) (by kernel_rfl) ?_
      refine xm_take 0 (m' := 1) rfl (by kernel_rfl) (by first | exact Sb.refl | exact Sb.nil | (repeat (first | exact Sb.nil | exact Sb.refl | exact Sb.app0 | apply Sb.keep | apply Sb.keepApp | apply Sb.cons | apply Sb.app))) (rd_fieldAddr rfl) rfl (by kernel_rfl) ?_
      refine xm_take 1 (m' := 3) rfl (by kernel_rfl) (by first | exact Sb.refl | exact Sb.nil | (repeat (first | exact Sb.nil | exact Sb.refl | exact Sb.app0 | apply Sb.keep | apply Sb.keepApp | apply Sb.cons | apply Sb.app))) (rd_load1 rfl (Cl.o0 rfl)) rfl (by kernel_rfl) ?_
      refine xm_take 2 (m' := 7) rfl (by kernel_rfl) (by first | exact Sb.refl | exact Sb.nil | (repeat (first | exact Sb.nil | exact Sb.refl | exact Sb.app0 | apply Sb.keep | apply Sb.keepApp | apply Sb.cons | apply Sb.app))) (rd_len rfl) rfl (by kernel_rfl) ?_
      refine xm_take 3 (m' := 15) rfl (by kernel_rfl) (by first | exact Sb.refl | exact Sb.nil | (repeat (first | exact Sb.nil | exact Sb.refl | exact Sb.app0 | apply Sb.keep | apply Sb.keepApp | apply Sb.cons | apply Sb.app))) (rd_convn rfl (by omega) (by omega)) rfl (by kernel_rfl) ?_
      refine xm_take 4 (m' := 31) rfl (by kernel_rfl) (by first | exact Sb.refl | exact Sb.nil | (repeat (first | exact Sb.nil | exact Sb.refl | exact Sb.app0 | apply Sb.keep | apply Sb.keepApp | apply Sb.cons | apply Sb.app))) (rd_move rfl) rfl (by kernel_rfl) ?_
      refine xm_take 5 (m' := 63) rfl (by kernel_rfl) (by first | exact Sb.refl | exact Sb.nil | (repeat (first | exact Sb.nil | exact Sb.refl | exact Sb.app0 | apply Sb.keep | apply Sb.keepApp | apply Sb.cons | apply Sb.app))) (rd_move rfl) rfl (by kernel_rfl) ?_
      refine xm_one 6 (m' := 127) rfl (by kernel_rfl) rfl (by kernel_rfl) (ef_appendS [_, _] _ l3 (news := ints .u8 out) rfl rfl hO3 rfl (hO.rs (by intro z hz; simp [hz])) (by rw [ints_len, Nat.mul_one]) (ints_one _ _) (by decide) (by omega) (by omega) fun s3 k3 l3 hO3 hk3 => ?_)
      refine ⟨(by first | exact Sb.refl | exact Sb.nil | (repeat (first | exact Sb.nil | exact Sb.refl | exact Sb.app0 | apply Sb.keep | apply Sb.keepApp | apply Sb.cons | apply Sb.app))), ?_⟩
      refine xm_take 7 (m' := 255) rfl (by kernel_rfl) (by first | exact Sb.refl | exact Sb.nil | (repeat (first | exact Sb.nil | exact Sb.refl | exact Sb.app0 | apply Sb.keep | apply Sb.keepApp | apply Sb.cons | apply Sb.app))) (rd_build rfl rfl rfl) rfl (by kernel_rfl) ?_
      refine xm_one 8 (m' := 511) rfl (by kernel_rfl) rfl (by kernel_rfl) (ef_storeB [] _ rfl rfl (by first | rfl | assumption) rfl rfl rfl ?_)
      refine ⟨(by first | exact Sb.refl | exact Sb.nil | (repeat (first | exact Sb.nil | exact Sb.refl | exact Sb.app0 | apply Sb.keep | apply Sb.keepApp | apply Sb.cons | apply Sb.app))), ?_⟩
      refine xm_take 9 (m' := 1023) rfl (by kernel_rfl) (by first | exact Sb.refl | exact Sb.nil | (repeat (first | exact Sb.nil | exact Sb.refl | exact Sb.app0 | apply Sb.keep | apply Sb.keepApp | apply Sb.cons | apply Sb.app))) (rd_assign rfl) rfl (by kernel_rfl) ?_
      refine xm_done (by kernel_rfl) ?_
      refine xq_seq ?_
      refine xc_ret ?_
    have hbl : ([ss, nt / 4294967296, nt % 4294967296, rt, pk, oc].flatMap be4 ++ xs.flatMap bkL).length = 4 + 8 + 4 + 4 + 4 + out.length := by rw [List.length_append, flat4_len, ho]; rfl
    have hb8 := beK_8 nt g2.1 g2.2
    all_goals refine xq_retB2 (.inl rfl) Try.results28 rfl rfl Kn.o0 rfl (L' := l3 ++ L) ?_ ⟨⟨⟨xs.length, 200, [ss, nt / 4294967296, nt % 4294967296, rt, pk, oc].flatMap be4 ++ xs.flatMap bkL, 0⟩, s3, k3, l3⟩, ?_, rfl, ?_, rfl⟩
    · exact (List.Sublist.append_left (by repeat (first | exact List.Sublist.refl _ | refine List.Sublist.trans ?_ (List.sublist_append_right _ _))) l3).trans (.cons _ (.cons _ (List.Sublist.refl _)))
    · unfold Pb.enc Pc.enc; dsimp only; rw [hbl]; rfl
    · unfold Pb.Ok
      dsimp only
      rw [hbl, ← ho]
      rw [hb8] at hO3
      simp only [ints_app, List.append_assoc, List.flatMap_cons, List.flatMap_nil, List.append_nil] at hO3 ⊢
      exact hO3
set_option maxHeartbeats 8000000 in
theorem xf_rbye {W : World} {L : List Blk} (x : By') (p : Option Addr) (c : Nat) (hr : Rs W L p (ints .u32 x.so)) (hu : ∀ z, z ∈ x.so → U4 z) (hn : x.so.length ≤ 9223372036854775807) (hm : x.re.size ≤ 9223372036854775807) :
    XF Try.prog W 34 #[.agg (x.enc (.slice p x.so.length c)).toArray] L (PuM L (putBy x)) := by
  refine xf_enter (args := [_]) Try.func34 rfl Try.ntmps34 rfl ?_
  obtain ⟨so, re⟩ := x
  unfold By'.enc putBy byeB
  dsimp only at hr hu hn hm ⊢
  by_cases hbad : 31 < so.length ∨ 255 < re.size
  · rw [if_pos hbad]
    focus
      refine xc_seq ?_
      refine xc_region ?_
      refine xo_ef rfl (ef_box rfl fun r1 => ?_)
      refine xo_ef rfl (ef_alloc fun r2 => ?_)
      refine xo_rd (rd_assign rfl) rfl ?_
      refine xo_nil ?_
      refine xq_seq ?_
      refine xc_seq ?_
      refine xc_seq ?_
      refine xc_region ?_
      refine xo_rd (rd_fieldAddr rfl) rfl ?_
      refine xo_rd (rd_load1 rfl (Cl.o1 rfl)) rfl ?_
      refine xo_rd (rd_len rfl) rfl ?_
      refine xo_rd (rd_gtr rfl rfl) rfl ?_
      refine xo_rd (rd_move rfl) rfl ?_
      refine xo_dec 10 rfl (fun hq1 => ?_) (fun hq1 => ?_)
      refine xo_gskip rfl rfl rfl rfl ?_
      refine xo_gskip rfl rfl rfl rfl ?_
      refine xo_gskip rfl rfl rfl rfl ?_
      refine xo_gskip rfl rfl rfl rfl ?_
      refine xo_rd (rd_pickt rfl rfl) rfl ?_
      refine xo_nil ?_
      refine xq_seq ?_
      refine xc_condt rfl ?_
      refine xc_seq ?_
      refine xc_region ?_
      refine xo_rd (rd_build rfl rfl rfl) rfl ?_
      refine xo_ef rfl (ef_storeB [] _ rfl rfl (by first | rfl | assumption) rfl rfl rfl ?_)
      refine xo_rd (rd_assign rfl) rfl ?_
      refine xo_nil ?_
      refine xq_seq ?_
      refine xc_ret ?_
      refine xq_then_ret ?_
      rotate_left
      refine xo_grd rfl rfl (rd_fieldAddr rfl) rfl ?_
      refine xo_grd rfl rfl (rd_load1 rfl (Cl.o1 rfl)) rfl ?_
      refine xo_grd rfl rfl (rd_lenStr rfl) rfl ?_
      refine xo_grd rfl rfl (rd_gtr rfl rfl) rfl ?_
      refine xo_rd (rd_pickf rfl rfl) rfl ?_
      refine xo_nil ?_
      refine xq_seq ?_
      refine xc_dec rfl (fun hq2 => ?_) (fun hq2 => (by exfalso; omega))
      refine xc_seq ?_
      refine xc_region ?_
      refine xo_rd (rd_build rfl rfl rfl) rfl ?_
      refine xo_ef rfl (ef_storeB [] _ rfl rfl (by first | rfl | assumption) rfl rfl rfl ?_)
      refine xo_rd (rd_assign rfl) rfl ?_
      refine xo_nil ?_
      refine xq_seq ?_
      refine xc_ret ?_
      refine xq_then_ret ?_
      rotate_left
    all_goals exact xq_retB2 (.inl rfl) Try.results34 rfl rfl Kn.o0 rfl (.cons _ (List.sublist_cons_self _ _)) (PuM.err 2)
  · rw [if_neg hbad]
    focus
      refine xc_seq ?_
      refine xc_region ?_
      refine xo_ef rfl (ef_box rfl fun r1 => ?_)
      refine xo_ef rfl (ef_alloc fun r2 => ?_)
      refine xo_rd (rd_assign rfl) rfl ?_
      refine xo_nil ?_
      refine xq_seq ?_
      refine xc_seq ?_
      refine xc_seq ?_
      refine xc_region ?_
      refine xo_rd (rd_fieldAddr rfl) rfl ?_
      refine xo_rd (rd_load1 rfl (Cl.o1 rfl)) rfl ?_
      refine xo_rd (rd_len rfl) rfl ?_
      refine xo_rd (rd_gtr rfl rfl) rfl ?_
      refine xo_rd (rd_move rfl) rfl ?_
      refine xo_dec 10 rfl (fun hq1 => (by exfalso; omega)) (fun hq1 => ?_)
      refine xo_grd rfl rfl (rd_fieldAddr rfl) rfl ?_
      refine xo_grd rfl rfl (rd_load1 rfl (Cl.o1 rfl)) rfl ?_
      refine xo_grd rfl rfl (rd_lenStr rfl) rfl ?_
      refine xo_grd rfl rfl (rd_gtr rfl rfl) rfl ?_
      refine xo_rd (rd_pickf rfl rfl) rfl ?_
      refine xo_nil ?_
      refine xq_seq ?_
      refine xc_dec rfl (fun hq2 => (by exfalso; omega)) (fun hq2 => ?_)
      refine xc_skip ?_
      refine xq_seq ?_
      refine xc_seq ?_
      refine xc_region ?_
      refine xo_rd (rd_assign rfl) rfl ?_
      refine xo_nil ?_
      refine xq_seq ?_
      refine xc_seq ?_
      refine xc_seq ?_
      refine xc_region ?_
      refine xo_rd (rd_assign rfl) rfl ?_
      refine xo_nil ?_
      refine xq_seq ?_
      refine xc_block ?_
    refine xc_loopI (ι := LgS) (fun z => z.i ≤ so.length ∧ SlO 1 5 (.slice z.s (4 * z.i) z.k) (4 * z.i) (ints .u8 ((so.take z.i).flatMap be4)) z.l) (fun z => so.length - z.i) (fun z => (r2, .cells #[.int .u8 0, .int .u8 0, .slice none 0 0, .int .u8 0] 46 (0, 0)) :: (r1, .cells #[.slice p so.length c, .string re] 78 (0, 0)) :: (z.l ++ L)) (fun z => [(1, .pointer (some ⟨r1, 0, none⟩)), (2, .pointer (some ⟨r2, 0, none⟩)), (3, .int .i64 0), (4, .slice z.s (4 * z.i) z.k), (5, .int .i64 z.i)]) ⟨0, none, 0, []⟩ ⟨Nat.zero_le _, SlO.nil⟩ rfl (by repeat (first | exact keep_nil | refine keep_cons rfl ?_)) ?_
    rintro ⟨i, s3, k3, l3⟩ ⟨hi, hO3⟩
    dsimp only at hi hO3 ⊢
    by_cases hin : i < so.length
    · obtain ⟨b, o, hp, hc⟩ := hr.int (i := i) hin
      subst hp
      have hui := hu so[i] (List.getElem_mem _)
      have e1 : so.take (i + 1) = so.take i ++ [so[i]] := by rw [List.take_add_one, List.getElem?_eq_getElem hin]; rfl
      generalize so[i] = z at *
      focus
        refine xc_seq ?_
        refine xc_seq ?_
        refine xc_region ?_
        refine xo_rd (rd_move rfl) rfl ?_
        refine xo_rd (rd_fieldAddr rfl) rfl ?_
        refine xo_rd (rd_load1 rfl (Cl.o1 rfl)) rfl ?_
        refine xo_rd (rd_len rfl) rfl ?_
        refine xo_rd (rd_lss rfl rfl) rfl ?_
        refine xo_nil ?_
        refine xq_seq ?_
        refine xc_dec rfl (fun hw1 => ?_) (fun hw1 => (by exfalso; omega))
        refine xc_skip ?_
        refine xq_seq ?_
        refine xc_seq ?_
        refine xc_block ?_
        refine xc_region ?_
        refine xo_rd (rd_move rfl) rfl ?_
        refine xo_rd (rd_fieldAddr rfl) rfl ?_
        refine xo_rd (rd_load1 rfl (Cl.o1 rfl)) rfl ?_
        refine xo_rd (rd_move rfl) rfl ?_
        refine xo_rd (rd_indexAddr rfl rfl (by omega) (by omega)) rfl ?_
        refine xo_rd (rd_load1 rfl (hc.mono (by intro z hz; simp [hz]))) rfl ?_
        refine xo_ef rfl (ef_call rfl (XF.mono (xf_rlg _ hui) ?_))
        rintro v L' ⟨s2, k2, l2, rfl, hO2, rfl⟩
        refine xo_perm (perm_p2 l2 l3 _) ?_
        refine xo_ef rfl (ef_appendS [_, _] _ l3 (news := ints .u8 (be4 z)) rfl rfl hO3 rfl (hO2.rs (by intro z hz; simp [hz])) rfl rfl (by decide) (by omega) (by omega) fun s4 k4 l4 hO4 hk4 => ?_)
        refine xo_rd (rd_assign rfl) rfl ?_
        refine xo_nil ?_
        refine xq_block ?_
        refine xq_seq ?_
        refine xc_region ?_
        refine xo_rd (rd_move rfl) rfl ?_
        refine xo_rd (rd_addn rfl rfl (by omega) (by omega)) rfl ?_
        refine xo_rd (rd_assign rfl) rfl ?_
        refine xo_nil ?_
      refine xq_sub (L' := (r2, .cells #[.int .u8 0, .int .u8 0, .slice none 0 0, .int .u8 0] 46 (0, 0)) :: (r1, .cells #[.slice (some ⟨b, o, none⟩) so.length c, .string re] 78 (0, 0)) :: (l4 ++ L)) (.cons_cons _ (.cons_cons _ (List.Sublist.append_left (List.sublist_append_right _ L) l4))) (xq_roundI (⟨i + 1, s4, k4, l4⟩ : LgS) ⟨by dsimp only; omega, ?_⟩ (by dsimp only; omega) rfl (by repeat (first | exact keep_nil | refine keep_cons rfl ?_)))
      dsimp only
      rw [e1, List.flatMap_append, List.flatMap_singleton, ints_app]
      exact hO4
    · obtain rfl : i = so.length := by omega
      rw [List.take_length] at hO3
      focus
        refine xc_seq ?_
        refine xc_seq ?_
        refine xc_region ?_
        refine xo_rd (rd_move rfl) rfl ?_
        refine xo_rd (rd_fieldAddr rfl) rfl ?_
        refine xo_rd (rd_load1 rfl (Cl.o1 rfl)) rfl ?_
        refine xo_rd (rd_len rfl) rfl ?_
        refine xo_rd (rd_lss rfl rfl) rfl ?_
        refine xo_nil ?_
        refine xq_seq ?_
        refine xc_dec rfl (fun hq1 => (by exfalso; omega)) (fun hq1 => ?_)
        refine xc_exit ?_
        refine xq_then_exit ?_
        refine xq_then_exit ?_
        refine xq_block_hit ?_
        refine xq_seq ?_
      by_cases h0 : re.size = 0
      · rw [if_pos h0]
        obtain rfl := nm_size0.1 h0
        focus
          refine xc_seq ?_
          refine xc_seq ?_
          refine xc_region ?_
          refine xo_rd (rd_fieldAddr rfl) rfl ?_
          refine xo_rd (rd_load1 rfl (Cl.o1 rfl)) rfl ?_
          refine xo_rd (rd_cast (v' := .bool false) (rd_nes rfl rfl) (congrArg Value.bool (show (!decide ((⟨#[]⟩ : ByteArray) = ⟨#[]⟩)) = false from by rw [decide_eq_true rfl]; rfl))) rfl ?_
          refine xo_nil ?_
          refine xq_seq ?_
          refine xc_condf rfl ?_
          refine xc_skip ?_
          refine xq_seq ?_
          refine xc_seq ?_
          refine xc_region ?_
          refine xo_rd (rd_fieldAddr rfl) rfl ?_
          refine xo_rd (rd_load1 rfl (Cl.o1 rfl)) rfl ?_
          refine xo_rd (rd_len rfl) rfl ?_
          refine xo_rd (rd_convn rfl (by omega) (by omega)) rfl ?_
          refine xo_rd (rd_move rfl) rfl ?_
          refine xo_rd (rd_build rfl rfl rfl) rfl ?_
          refine xo_ef rfl (ef_storeB [] _ rfl rfl (by first | rfl | assumption) rfl rfl rfl ?_)
          refine xo_rd (rd_assign rfl) rfl ?_
          refine xo_nil ?_
          refine xq_seq ?_
          refine xc_ret ?_
        refine xq_retB2 (.inl rfl) Try.results34 rfl rfl Kn.o0 rfl ((List.sublist_cons_self _ _).trans (List.sublist_cons_self _ _)) ⟨⟨⟨so.length, 203, so.flatMap be4, 0⟩, s3, k3, l3⟩, ?_, rfl, ?_, rfl⟩
        · unfold Pb.enc Pc.enc; dsimp only; rw [flat4_len]; rfl
        · unfold Pb.Ok; dsimp only; rw [flat4_len]; exact hO3
      · rw [if_neg h0]
        have hnm : ¬ re = ⟨#[]⟩ := fun h => h0 (nm_size0.2 h)
        have hT : ∀ s5 k5 l5, SlO 1 5 (.slice s5 (4 * so.length + 1 + re.size) k5) (4 * so.length + 1 + re.size) (ints .u8 (so.flatMap be4) ++ [.int .u8 re.size] ++ ints .u8 (sbs re)) l5 → SlO 1 5 (.slice s5 (4 * so.length + 1 + re.size) k5) (4 * so.length + 1 + re.size) (ints .u8 (so.flatMap be4 ++ [(re.size : Int)] ++ sbs re)) l5 := fun _ _ _ h => by
          rw [ints_app, ints_app]; exact h
        focus
          refine xc_seq ?_
          refine xc_seq ?_
          refine xc_region ?_
          refine xo_rd (rd_fieldAddr rfl) rfl ?_
          refine xo_rd (rd_load1 rfl (Cl.o1 rfl)) rfl ?_
          refine xo_rd (rd_cast (v' := .bool true) (rd_nes rfl rfl) (congrArg Value.bool (show (!decide (re = ⟨#[]⟩)) = true from by rw [decide_eq_false hnm]; rfl))) rfl ?_
          refine xo_nil ?_
          refine xq_seq ?_
          refine xc_condt rfl ?_
          refine xc_seq ?_
          refine xc_region ?_
          refine xo_rd (rd_move rfl) rfl ?_
          refine xo_rd (rd_fieldAddr rfl) rfl ?_
          refine xo_rd (rd_load1 rfl (Cl.o1 rfl)) rfl ?_
          refine xo_rd (rd_lenStr rfl) rfl ?_
          refine xo_rd (rd_convn rfl (by omega) (by omega)) rfl ?_
          refine xo_ef rfl (ef_slice1 rfl rfl rfl fun r40 => ?_)
          refine xo_ef rfl (ef_appendS [_, _, _] _ l3 (news := [.int .u8 re.size]) rfl rfl hO3 rfl (Rs.fresh (List.Mem.head _)) rfl rfl (by decide) (by omega) (by omega) fun s4 k4 l4 hO4 hk4 => ?_)
          refine xo_rd (rd_assign rfl) rfl ?_
          refine xo_nil ?_
          refine xq_seq ?_
          refine xc_region ?_
          refine xo_rd (rd_move rfl) rfl ?_
          refine xo_rd (rd_fieldAddr rfl) rfl ?_
          refine xo_rd (rd_load1 rfl (Cl.o2 rfl)) rfl ?_
          refine xo_ef rfl (ef_appendT [_, _, _] _ l4 rfl rfl hO4 rfl rfl (by omega) (by omega) fun s5 k5 l5 hO5 hk5 => ?_)
          refine xo_ef rfl (ef_call rfl (XF.mono (XF.seg [_, _, _] l5 L (xf_rfilled _ (4 * so.length + 1 + re.size) (so.flatMap be4 ++ [(re.size : Int)] ++ sbs re) l5 (hT _ _ _ hO5) (by omega))) ?_))
          rintro v L' ⟨s7, k7, l7, rfl, hO7, rfl⟩
          refine xo_seg [_, _, _] l7 L ?_
          refine xo_rd (rd_assign rfl) rfl ?_
          refine xo_nil ?_
          refine xq_seq ?_
          refine xc_seq ?_
          refine xc_region ?_
          refine xo_rd (rd_fieldAddr rfl) rfl ?_
          refine xo_rd (rd_load1 rfl (Cl.o2 rfl)) rfl ?_
          refine xo_rd (rd_len rfl) rfl ?_
          refine xo_rd (rd_convn rfl (by omega) (by omega)) rfl ?_
          refine xo_rd (rd_move rfl) rfl ?_
          refine xo_rd (rd_build rfl rfl rfl) rfl ?_
          refine xo_ef rfl (ef_storeB [_] _ rfl rfl (by first | rfl | assumption) rfl rfl rfl ?_)
          refine xo_rd (rd_assign rfl) rfl ?_
          refine xo_nil ?_
          refine xq_seq ?_
          refine xc_ret ?_
        have hfl : (so.flatMap be4 ++ [(re.size : Int)] ++ sbs re).length = 4 * so.length + 1 + re.size := by simp only [List.length_append, flat4_len, sbs_len, List.length_singleton]
        have hfl2 : (fil (so.flatMap be4 ++ [(re.size : Int)] ++ sbs re)).length = 4 * so.length + 1 + re.size + (4 - (4 * so.length + 1 + re.size) % 4) % 4 := by rw [fil_len, hfl]
        refine xq_sub (L' := (r2, .cells #[.int .u8 so.length, .int .u8 203, .slice s7 (4 * so.length + 1 + re.size + (4 - (4 * so.length + 1 + re.size) % 4) % 4) k7, .int .u8 0] 46 (0, 0)) :: (l7 ++ L)) ?_ (xq_retB2 (.inl rfl) Try.results34 rfl rfl Kn.o0 rfl (List.sublist_cons_self _ _) ⟨⟨⟨so.length, 203, fil (so.flatMap be4 ++ [(re.size : Int)] ++ sbs re), 0⟩, s7, k7, l7⟩, ?_, rfl, ?_, rfl⟩)
        · exact .cons _ (.cons_cons _ (.cons _ (List.Sublist.refl _)))
        · unfold Pb.enc Pc.enc; dsimp only; rw [hfl2]
        · unfold Pb.Ok; dsimp only; rw [hfl2]; unfold fil; rw [hfl]; exact hO7
end Go.Proofs.Ytohlaabclifbfaa.X
