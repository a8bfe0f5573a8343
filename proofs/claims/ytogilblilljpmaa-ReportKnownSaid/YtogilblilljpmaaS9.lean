/-
  Texts of my own, put together: walks and laws for this seat. No condition.
-/
import Derived.Test.YtogilblilljpmaaS8
import Derived.Test.YtogilblilljpmaaS2
import Derived.Laws.Strings2
/-
  The report layer: reports that are the same, the reference's outlet, a remote that is not there: walks of my own.
-/
namespace Go.Proofs.Ytogilblilljpmaa.X
open Go Go.RowKit
set_option linter.unusedVariables false
set_option linter.unusedSimpArgs false
section
variable {W : World} {L : List Blk}
set_option maxHeartbeats 4000000 in
theorem xf_sameSender (x : Sn) (p p' : Option Addr) (c c' : Nat) (hr : Rs W L p (x.bl.flatMap Bk.enc)) (hr' : Rs W L p' (x.bl.flatMap Bk.enc)) (hn : x.bl.length ≤ 1000000) :
    XF Try.prog W 26 #[.agg (x.enc (.slice p x.bl.length c)).toArray, .agg (x.enc (.slice p' x.bl.length c')).toArray] L (fun v L' => v = .bool true ∧ L' = L) := by
  refine xf_enter (args := [_, _]) Try.func26 rfl Try.ntmps26 rfl ?_
  obtain ⟨ss, nt, rt, pk, oc, xs⟩ := x
  unfold Sn.enc
  dsimp only at hr hr' hn ⊢
  focus
    refine xc_seq ?_
    refine xc_region ?_
    refine xo_ef rfl (ef_box rfl fun r2 => ?_)
    refine xo_ef rfl (ef_box rfl fun r3 => ?_)
    refine xo_rd (rd_assign rfl) rfl ?_
    refine xo_nil ?_
    refine xq_seq ?_
    refine xc_seq ?_
    refine xc_region ?_
    refine xo_rd (rd_fieldAddr rfl) rfl ?_
    refine xo_rd (rd_load1 rfl (Cl.o1 rfl)) rfl ?_
    refine xo_ef rfl (ef_call rfl (XF.mono (xf_dBlocks p xs.length c xs rfl (hr.mono (by intro z hz; simp [hz])) hn) ?_))
    rintro v L' ⟨s, k, l, rfl, hO, rfl⟩
    refine xo_seg [_, _] l _ ?_
    refine xo_rd (rd_assign rfl) rfl ?_
    refine xo_nil ?_
    refine xq_seq ?_
    refine xc_seq ?_
    refine xc_seq ?_
    refine xc_region ?_
    refine xo_rd (rd_fieldAddr rfl) rfl ?_
    refine xo_rd (rd_load1 rfl (Cl.o1 rfl)) rfl ?_
    refine xo_rd (rd_fieldAddr rfl) rfl ?_
    refine xo_rd (rd_load1 rfl (Cl.o0 rfl)) rfl ?_
    refine xo_rd (rd_cast (v' := .bool false) (rd_neq rfl rfl) (congrArg Value.bool (by rw [decide_eq_true rfl]; rfl))) rfl ?_
    refine xo_rd (rd_move rfl) rfl ?_
    refine xo_grd rfl rfl (rd_fieldAddr rfl) rfl ?_
    refine xo_grd rfl rfl (rd_load1 rfl (Cl.o1 rfl)) rfl ?_
    refine xo_grd rfl rfl (rd_fieldAddr rfl) rfl ?_
    refine xo_grd rfl rfl (rd_load1 rfl (Cl.o0 rfl)) rfl ?_
    refine xo_grd rfl rfl (rd_cast (v' := .bool false) (rd_neq rfl rfl) (congrArg Value.bool (by rw [decide_eq_true rfl]; rfl))) rfl ?_
    refine xo_rd (rd_pickf rfl rfl) rfl ?_
    refine xo_rd (rd_move rfl) rfl ?_
    refine xo_grd rfl rfl (rd_fieldAddr rfl) rfl ?_
    refine xo_grd rfl rfl (rd_load1 rfl (Cl.o1 rfl)) rfl ?_
    refine xo_grd rfl rfl (rd_fieldAddr rfl) rfl ?_
    refine xo_grd rfl rfl (rd_load1 rfl (Cl.o0 rfl)) rfl ?_
    refine xo_grd rfl rfl (rd_cast (v' := .bool false) (rd_neq rfl rfl) (congrArg Value.bool (by rw [decide_eq_true rfl]; rfl))) rfl ?_
    refine xo_rd (rd_pickf rfl rfl) rfl ?_
    refine xo_rd (rd_move rfl) rfl ?_
    refine xo_grd rfl rfl (rd_fieldAddr rfl) rfl ?_
    refine xo_grd rfl rfl (rd_load1 rfl (Cl.o1 rfl)) rfl ?_
    refine xo_grd rfl rfl (rd_fieldAddr rfl) rfl ?_
    refine xo_grd rfl rfl (rd_load1 rfl (Cl.o0 rfl)) rfl ?_
    refine xo_grd rfl rfl (rd_cast (v' := .bool false) (rd_neq rfl rfl) (congrArg Value.bool (by rw [decide_eq_true rfl]; rfl))) rfl ?_
    refine xo_rd (rd_pickf rfl rfl) rfl ?_
    refine xo_rd (rd_move rfl) rfl ?_
    refine xo_grd rfl rfl (rd_fieldAddr rfl) rfl ?_
    refine xo_grd rfl rfl (rd_load1 rfl (Cl.o1 rfl)) rfl ?_
    refine xo_grd rfl rfl (rd_fieldAddr rfl) rfl ?_
    refine xo_grd rfl rfl (rd_load1 rfl (Cl.o0 rfl)) rfl ?_
    refine xo_grd rfl rfl (rd_cast (v' := .bool false) (rd_neq rfl rfl) (congrArg Value.bool (by rw [decide_eq_true rfl]; rfl))) rfl ?_
    refine xo_rd (rd_pickf rfl rfl) rfl ?_
    refine xo_rd (rd_move rfl) rfl ?_
    refine xo_grd rfl rfl (rd_move rfl) rfl ?_
    refine xo_grd rfl rfl (rd_len rfl) rfl ?_
    refine xo_grd rfl rfl (rd_fieldAddr rfl) rfl ?_
    refine xo_grd rfl rfl (rd_load1 rfl (Cl.o0 rfl)) rfl ?_
    refine xo_grd rfl rfl (rd_len rfl) rfl ?_
    refine xo_grd rfl rfl (rd_cast (v' := .bool false) (rd_neq rfl rfl) (congrArg Value.bool (by rw [decide_eq_true rfl]; rfl))) rfl ?_
    refine xo_rd (rd_pickf rfl rfl) rfl ?_
    refine xo_nil ?_
    refine xq_seq ?_
    refine xc_condf rfl ?_
    refine xc_skip ?_
    refine xq_seq ?_
    refine xc_seq ?_
    refine xc_seq ?_
    refine xc_region ?_
    refine xo_rd (rd_assign rfl) rfl ?_
    refine xo_nil ?_
    refine xq_seq ?_
    refine xc_block ?_
  refine xc_loopK (ι := Nat) (fun i => i ≤ xs.length) (fun i => xs.length - i) (fun i => [(3, .pointer (some ⟨r3, 0, none⟩)), (5, .slice s xs.length k), (6, .int .i64 i)]) 0 (Nat.zero_le _) (by repeat (first | exact keep_nil | refine keep_cons rfl ?_)) ?_
  intro i hi
  by_cases hin : i < xs.length
  · have hOr : Rs W _ s (xs.flatMap Bk.enc) := hO.rs (L := l) (fun _ h => h)
    obtain ⟨b, o, hp, hc⟩ := hOr.rows Bk.len (by decide) (by omega)
    obtain ⟨b2, o2, hp2, hc2⟩ := hr'.rows Bk.len (by decide) (by omega)
    subst hp hp2
    have hci := hc i (by omega)
    have hci2 := hc2 i (by omega)
    generalize xs[i] = x at *
    have hcI : ∀ (A : List Blk) (j : Nat) (u : Value), x.enc[j]? = some u → Cl W (A ++ (l ++ L)) b (o + (i : Int).toNat * 7 + j) u := fun A j u hj => (hci j u hj).mono fun _ h => List.mem_append_right _ (List.mem_append_left _ h)
    have hcJ : ∀ (A : List Blk) (j : Nat) (u : Value), x.enc[j]? = some u → Cl W (A ++ (l ++ L)) b2 (o2 + (i : Int).toNat * 7 + j) u := fun A j u hj => (hci2 j u hj).mono fun _ h => List.mem_append_right _ (List.mem_append_right _ h)
    focus
      refine xc_seq ?_
      refine xc_seq ?_
      refine xc_region ?_
      refine xo_rd (rd_move rfl) rfl ?_
      refine xo_rd (rd_move rfl) rfl ?_
      refine xo_rd (rd_len rfl) rfl ?_
      refine xo_rd (rd_lss rfl rfl) rfl ?_
      refine xo_nil ?_
      refine xq_seq ?_
      refine xc_dec rfl (fun h1 => ?_) (fun h1 => (by exfalso; omega))
      refine xc_skip ?_
      refine xq_seq ?_
      refine xc_seq ?_
      refine xc_block ?_
      refine xc_seq ?_
      refine xc_drawML [0, 0, 3, 4, 0, 16, 0, 96, 128, 264] [0, 0, 3, 4, 0, 16, 0, 96, 128, 264] (by kernel_rfl) (by kernel_rfl) (by kernel_rfl) ?_
      refine xm_take 0 (m' := 1) rfl (by kernel_rfl) (by first | exact Sb.refl | exact Sb.nil | (repeat (first | exact Sb.nil | exact Sb.refl | exact Sb.app0 | apply Sb.keep | apply Sb.keepApp | apply Sb.cons | apply Sb.app))) (rd_move rfl) rfl (by kernel_rfl) ?_
      refine xm_take 1 (m' := 3) rfl (by kernel_rfl) (by first | exact Sb.refl | exact Sb.nil | (repeat (first | exact Sb.nil | exact Sb.refl | exact Sb.app0 | apply Sb.keep | apply Sb.keepApp | apply Sb.cons | apply Sb.app))) (rd_move rfl) rfl (by kernel_rfl) ?_
      refine xm_take 2 (m' := 7) rfl (by kernel_rfl) (by first | exact Sb.refl | exact Sb.nil | (repeat (first | exact Sb.nil | exact Sb.refl | exact Sb.app0 | apply Sb.keep | apply Sb.keepApp | apply Sb.cons | apply Sb.app))) (rd_indexAddr rfl rfl (by omega) (by omega)) rfl (by kernel_rfl) ?_
      refine xm_take 3 (m' := 15) rfl (by kernel_rfl) (by first | exact Sb.refl | exact Sb.nil | (repeat (first | exact Sb.nil | exact Sb.refl | exact Sb.app0 | apply Sb.keep | apply Sb.keepApp | apply Sb.cons | apply Sb.app))) (rd_loadA (vs := x.enc) rfl rfl (hcI [_, _])) rfl (by kernel_rfl) ?_
      refine xm_take 4 (m' := 31) rfl (by kernel_rfl) (by first | exact Sb.refl | exact Sb.nil | (repeat (first | exact Sb.nil | exact Sb.refl | exact Sb.app0 | apply Sb.keep | apply Sb.keepApp | apply Sb.cons | apply Sb.app))) (rd_fieldAddr rfl) rfl (by kernel_rfl) ?_
      refine xm_take 5 (m' := 63) rfl (by kernel_rfl) (by first | exact Sb.refl | exact Sb.nil | (repeat (first | exact Sb.nil | exact Sb.refl | exact Sb.app0 | apply Sb.keep | apply Sb.keepApp | apply Sb.cons | apply Sb.app))) (rd_load1 rfl (Cl.o0 rfl)) rfl (by kernel_rfl) ?_
      refine xm_take 6 (m' := 127) rfl (by kernel_rfl) (by first | exact Sb.refl | exact Sb.nil | (repeat (first | exact Sb.nil | exact Sb.refl | exact Sb.app0 | apply Sb.keep | apply Sb.keepApp | apply Sb.cons | apply Sb.app))) (rd_move rfl) rfl (by kernel_rfl) ?_
      refine xm_take 7 (m' := 255) rfl (by kernel_rfl) (by first | exact Sb.refl | exact Sb.nil | (repeat (first | exact Sb.nil | exact Sb.refl | exact Sb.app0 | apply Sb.keep | apply Sb.keepApp | apply Sb.cons | apply Sb.app))) (rd_indexAddr rfl rfl (by omega) (by omega)) rfl (by kernel_rfl) ?_
      refine xm_take 8 (m' := 511) rfl (by kernel_rfl) (by first | exact Sb.refl | exact Sb.nil | (repeat (first | exact Sb.nil | exact Sb.refl | exact Sb.app0 | apply Sb.keep | apply Sb.keepApp | apply Sb.cons | apply Sb.app))) (rd_loadA (vs := x.enc) rfl rfl (hcJ [_, _])) rfl (by kernel_rfl) ?_
      refine xm_take 9 (m' := 1023) rfl (by kernel_rfl) (by first | exact Sb.refl | exact Sb.nil | (repeat (first | exact Sb.nil | exact Sb.refl | exact Sb.app0 | apply Sb.keep | apply Sb.keepApp | apply Sb.cons | apply Sb.app))) (rd_ne35 rfl rfl) rfl (by kernel_rfl) ?_
      refine xm_done (by kernel_rfl) ?_
      refine xq_seq ?_
      refine xc_condf rfl ?_
      refine xc_skip ?_
      refine xq_block ?_
      refine xq_seq ?_
      refine xc_region ?_
      refine xo_rd (rd_move rfl) rfl ?_
      refine xo_rd (rd_addn rfl rfl (by omega) (by omega)) rfl ?_
      refine xo_rd (rd_assign rfl) rfl ?_
      refine xo_nil ?_
    exact xq_roundK rfl (i + 1) (by omega) (by omega) (List.Sublist.refl _) (by repeat (first | exact keep_nil | refine keep_cons rfl ?_))
  · focus
      refine xc_seq ?_
      refine xc_seq ?_
      refine xc_region ?_
      refine xo_rd (rd_move rfl) rfl ?_
      refine xo_rd (rd_move rfl) rfl ?_
      refine xo_rd (rd_len rfl) rfl ?_
      refine xo_rd (rd_lss rfl rfl) rfl ?_
      refine xo_nil ?_
      refine xq_seq ?_
      refine xc_dec rfl (fun h1 => (by exfalso; omega)) (fun h1 => ?_)
      refine xc_exit ?_
      refine xq_then_exit ?_
      refine xq_then_exit ?_
      refine xq_block_hit ?_
      refine xq_seq ?_
      refine xc_seq ?_
      refine xc_region ?_
      refine xo_rd (rd_assign rfl) rfl ?_
      refine xo_nil ?_
      refine xq_seq ?_
      refine xc_ret ?_
    exact xq_sub ((List.sublist_append_right l _).trans ((List.sublist_cons_self _ _).trans (List.sublist_cons_self _ _))) (xq_ret1 (.inl rfl) Try.results26 rfl ⟨rfl, rfl⟩)
theorem xf_rtell (o : Oo) (ho : o.Rg) (now : Int) (hn : U8 now) (p : Option Addr) (n c : Nat) (xs : List Bk) :
    XF Try.prog W 29 #[.agg o.enc.toArray, .int .u64 now, .slice p n c] L (fun v L' => v = .agg ((sndF o now xs).enc (.slice p n c)).toArray ∧ L' = L) := by
  refine xf_enter (args := [.agg o.enc.toArray, .int .u64 now, .slice p n c]) Try.func29 rfl Try.ntmps29 rfl ?_
  have h8 := sinceF_range ho.ti hn
  obtain ⟨ss, pk, bt, otm, ti⟩ := o
  obtain ⟨⟨s0, s1⟩, ⟨k0, k1⟩, ⟨b0, b1⟩, ⟨m0, m1⟩, ⟨t0, t1⟩⟩ := ho
  dsimp only [Oo.enc] at *
  focus
    refine xc_seq ?_
    refine xc_region ?_
    refine xo_ef rfl (ef_box rfl fun r3 => ?_)
    refine xo_ef rfl (ef_alloc fun r6 => ?_)
    refine xo_nil ?_
    refine xq_seq ?_
    refine xc_seq ?_
    refine xc_drawM [0, 1, 0, 4, 0, 16, 32, 64, 0, 256, 512, 1024, 0, 6282, 0, 32767] [0, 1, 0, 4, 0, 16, 32, 64, 0, 256, 512, 1024, 0, 6282, 0, 32767] ([(r3, .cells [.int .u32 ss, .int .u64 pk, .int .u64 bt, .int .u32 otm, .int .u64 ti].toArray 67 (0, 0))]) (by kernel_rfl) (by kernel_rfl) (by kernel_rfl) ?_
    refine xm_take 0 (m' := 1) rfl (by kernel_rfl) (by first | exact Sb.refl | exact Sb.nil | (repeat (first | exact Sb.nil | exact Sb.refl | exact Sb.app0 | apply Sb.keep | apply Sb.keepApp | apply Sb.cons | apply Sb.app))) (rd_fieldAddr rfl) rfl (by kernel_rfl) ?_
    refine xm_take 1 (m' := 3) rfl (by kernel_rfl) (by first | exact Sb.refl | exact Sb.nil | (repeat (first | exact Sb.nil | exact Sb.refl | exact Sb.app0 | apply Sb.keep | apply Sb.keepApp | apply Sb.cons | apply Sb.app))) (rd_load1 rfl (Cl.o0 rfl)) rfl (by kernel_rfl) ?_
    refine xm_take 2 (m' := 7) rfl (by kernel_rfl) (by first | exact Sb.refl | exact Sb.nil | (repeat (first | exact Sb.nil | exact Sb.refl | exact Sb.app0 | apply Sb.keep | apply Sb.keepApp | apply Sb.cons | apply Sb.app))) (rd_move rfl) rfl (by kernel_rfl) ?_
    refine xm_take 4 (m' := 23) rfl (by kernel_rfl) (by first | exact Sb.refl | exact Sb.nil | (repeat (first | exact Sb.nil | exact Sb.refl | exact Sb.app0 | apply Sb.keep | apply Sb.keepApp | apply Sb.cons | apply Sb.app))) (rd_fieldAddr rfl) rfl (by kernel_rfl) ?_
    refine xm_take 5 (m' := 55) rfl (by kernel_rfl) (by first | exact Sb.refl | exact Sb.nil | (repeat (first | exact Sb.nil | exact Sb.refl | exact Sb.app0 | apply Sb.keep | apply Sb.keepApp | apply Sb.cons | apply Sb.app))) (rd_load1 rfl (Cl.o0 rfl)) rfl (by kernel_rfl) ?_
    refine xm_take 6 (m' := 119) rfl (by kernel_rfl) (by first | exact Sb.refl | exact Sb.nil | (repeat (first | exact Sb.nil | exact Sb.refl | exact Sb.app0 | apply Sb.keep | apply Sb.keepApp | apply Sb.cons | apply Sb.app))) (rd_remn rfl rfl (by omega) (by omega)) rfl (by kernel_rfl) ?_
    refine xm_take 7 (m' := 247) rfl (by kernel_rfl) (by first | exact Sb.refl | exact Sb.nil | (repeat (first | exact Sb.nil | exact Sb.refl | exact Sb.app0 | apply Sb.keep | apply Sb.keepApp | apply Sb.cons | apply Sb.app))) (rd_convn rfl (by omega) (by omega)) rfl (by kernel_rfl) ?_
    refine xm_take 8 (m' := 503) rfl (by kernel_rfl) (by first | exact Sb.refl | exact Sb.nil | (repeat (first | exact Sb.nil | exact Sb.refl | exact Sb.app0 | apply Sb.keep | apply Sb.keepApp | apply Sb.cons | apply Sb.app))) (rd_fieldAddr rfl) rfl (by kernel_rfl) ?_
    refine xm_take 9 (m' := 1015) rfl (by kernel_rfl) (by first | exact Sb.refl | exact Sb.nil | (repeat (first | exact Sb.nil | exact Sb.refl | exact Sb.app0 | apply Sb.keep | apply Sb.keepApp | apply Sb.cons | apply Sb.app))) (rd_load1 rfl (Cl.o0 rfl)) rfl (by kernel_rfl) ?_
    refine xm_take 10 (m' := 2039) rfl (by kernel_rfl) (by first | exact Sb.refl | exact Sb.nil | (repeat (first | exact Sb.nil | exact Sb.refl | exact Sb.app0 | apply Sb.keep | apply Sb.keepApp | apply Sb.cons | apply Sb.app))) (rd_remn rfl rfl (by omega) (by omega)) rfl (by kernel_rfl) ?_
    refine xm_take 11 (m' := 4087) rfl (by kernel_rfl) (by first | exact Sb.refl | exact Sb.nil | (repeat (first | exact Sb.nil | exact Sb.refl | exact Sb.app0 | apply Sb.keep | apply Sb.keepApp | apply Sb.cons | apply Sb.app))) (rd_convn rfl (by omega) (by omega)) rfl (by kernel_rfl) ?_
    refine xm_take 12 (m' := 8183) rfl (by kernel_rfl) (by first | exact Sb.refl | exact Sb.nil | (repeat (first | exact Sb.nil | exact Sb.refl | exact Sb.app0 | apply Sb.keep | apply Sb.keepApp | apply Sb.cons | apply Sb.app))) (rd_move rfl) rfl (by kernel_rfl) ?_
    refine xm_two 3 14 (mi := 8191) (mk := 24567) rfl rfl (by kernel_rfl) rfl rfl (by kernel_rfl) (by kernel_rfl) (ef_call rfl (XF.mono (xf_rntp now hn) ?_)) (ef_alloc fun r7 => ⟨(by first | exact Sb.refl | exact Sb.nil | (repeat (first | exact Sb.nil | exact Sb.refl | exact Sb.app0 | apply Sb.keep | apply Sb.keepApp | apply Sb.cons | apply Sb.app))), ?_⟩)
    rotate_left
    rotate_right
    rintro v L' ⟨rfl, rfl⟩
    refine ⟨(by first | exact Sb.refl | exact Sb.nil | (repeat (first | exact Sb.nil | exact Sb.refl | exact Sb.app0 | apply Sb.keep | apply Sb.keepApp | apply Sb.cons | apply Sb.app))), ?_⟩
    refine xm_take 13 (m' := 16383) rfl (by kernel_rfl) (by first | exact Sb.refl | exact Sb.nil | (repeat (first | exact Sb.nil | exact Sb.refl | exact Sb.app0 | apply Sb.keep | apply Sb.keepApp | apply Sb.cons | apply Sb.app))) (rd_build rfl rfl rfl) rfl (by kernel_rfl) ?_
    refine xm_one 14 (m' := 32767) rfl (by kernel_rfl) rfl (by kernel_rfl) (ef_alloc fun r7 => ?_)
    refine ⟨(by first | exact Sb.refl | exact Sb.nil | (repeat (first | exact Sb.nil | exact Sb.refl | exact Sb.app0 | apply Sb.keep | apply Sb.keepApp | apply Sb.cons | apply Sb.app))), ?_⟩
    refine xm_one 15 (m' := 65535) rfl (by kernel_rfl) rfl (by kernel_rfl) (ef_storeB [] _ rfl rfl (by first | rfl | assumption) rfl rfl rfl ?_)
    refine ⟨(by first | exact Sb.refl | exact Sb.nil | (repeat (first | exact Sb.nil | exact Sb.refl | exact Sb.app0 | apply Sb.keep | apply Sb.keepApp | apply Sb.cons | apply Sb.app))), ?_⟩
    refine xm_done (by kernel_rfl) ?_
    refine xq_seq ?_
    refine xc_seq ?_
    refine xc_seq ?_
    refine xc_region ?_
    refine xo_rd (rd_fieldAddr rfl) rfl ?_
    refine xo_rd (rd_load1 rfl (Cl.o2 rfl)) rfl ?_
    refine xo_rd (rd_gtr rfl rfl) rfl ?_
    refine xo_nil ?_
    refine xq_seq ?_
    refine xc_dec rfl (fun h1 => ?_) (fun h1 => ?_)
    refine xc_drawM [0, 1, 0, 4, 0, 24, 32, 64, 128, 258, 1023, 2047] [0, 1, 0, 4, 0, 24, 32, 64, 128, 258, 1023, 2047] ([(r3, .cells [.int .u32 ss, .int .u64 pk, .int .u64 bt, .int .u32 otm, .int .u64 ti].toArray 67 (0, 0))]) (by kernel_rfl) (by kernel_rfl) (by kernel_rfl) ?_
    refine xm_take 0 (m' := 1) rfl (by kernel_rfl) (by first | exact Sb.refl | exact Sb.nil | (repeat (first | exact Sb.nil | exact Sb.refl | exact Sb.app0 | apply Sb.keep | apply Sb.keepApp | apply Sb.cons | apply Sb.app))) (rd_fieldAddr rfl) rfl (by kernel_rfl) ?_
    refine xm_take 1 (m' := 3) rfl (by kernel_rfl) (by first | exact Sb.refl | exact Sb.nil | (repeat (first | exact Sb.nil | exact Sb.refl | exact Sb.app0 | apply Sb.keep | apply Sb.keepApp | apply Sb.cons | apply Sb.app))) (rd_load1 rfl (Cl.o0 rfl)) rfl (by kernel_rfl) ?_
    refine xm_take 2 (m' := 7) rfl (by kernel_rfl) (by first | exact Sb.refl | exact Sb.nil | (repeat (first | exact Sb.nil | exact Sb.refl | exact Sb.app0 | apply Sb.keep | apply Sb.keepApp | apply Sb.cons | apply Sb.app))) (rd_fieldAddr rfl) rfl (by kernel_rfl) ?_
    refine xm_take 3 (m' := 15) rfl (by kernel_rfl) (by first | exact Sb.refl | exact Sb.nil | (repeat (first | exact Sb.nil | exact Sb.refl | exact Sb.app0 | apply Sb.keep | apply Sb.keepApp | apply Sb.cons | apply Sb.app))) (rd_load1 rfl (Cl.o0 rfl)) rfl (by kernel_rfl) ?_
    refine xm_take 4 (m' := 31) rfl (by kernel_rfl) (by first | exact Sb.refl | exact Sb.nil | (repeat (first | exact Sb.nil | exact Sb.refl | exact Sb.app0 | apply Sb.keep | apply Sb.keepApp | apply Sb.cons | apply Sb.app))) (rd_move rfl) rfl (by kernel_rfl) ?_
    refine xm_one 5 (m' := 63) rfl (by kernel_rfl) rfl (by kernel_rfl) (ef_call rfl (XF.mono (xf_rsince ti now ⟨t0, t1⟩ hn) ?_))
    rintro v L' ⟨rfl, rfl⟩
    refine ⟨(by first | exact Sb.refl | exact Sb.nil | (repeat (first | exact Sb.nil | exact Sb.refl | exact Sb.app0 | apply Sb.keep | apply Sb.keepApp | apply Sb.cons | apply Sb.app))), ?_⟩
    refine xm_take 6 (m' := 127) rfl (by kernel_rfl) (by first | exact Sb.refl | exact Sb.nil | (repeat (first | exact Sb.nil | exact Sb.refl | exact Sb.app0 | apply Sb.keep | apply Sb.keepApp | apply Sb.cons | apply Sb.app))) (rd_mul rfl rfl) rfl (by kernel_rfl) ?_
    refine xm_take 7 (m' := 255) rfl (by kernel_rfl) (by first | exact Sb.refl | exact Sb.nil | (repeat (first | exact Sb.nil | exact Sb.refl | exact Sb.app0 | apply Sb.keep | apply Sb.keepApp | apply Sb.cons | apply Sb.app))) (rd_rem rfl rfl (by decide)) rfl (by kernel_rfl) ?_
    refine xm_take 8 (m' := 511) rfl (by kernel_rfl) (by first | exact Sb.refl | exact Sb.nil | (repeat (first | exact Sb.nil | exact Sb.refl | exact Sb.app0 | apply Sb.keep | apply Sb.keepApp | apply Sb.cons | apply Sb.app))) (rd_conv rfl) rfl (by kernel_rfl) ?_
    refine xm_take 9 (m' := 1023) rfl (by kernel_rfl) (by first | exact Sb.refl | exact Sb.nil | (repeat (first | exact Sb.nil | exact Sb.refl | exact Sb.app0 | apply Sb.keep | apply Sb.keepApp | apply Sb.cons | apply Sb.app))) (rd_add rfl rfl) rfl (by kernel_rfl) ?_
    refine xm_take 10 (m' := 2047) rfl (by kernel_rfl) (by first | exact Sb.refl | exact Sb.nil | (repeat (first | exact Sb.nil | exact Sb.refl | exact Sb.app0 | apply Sb.keep | apply Sb.keepApp | apply Sb.cons | apply Sb.app))) (rd_fieldAddr rfl) rfl (by kernel_rfl) ?_
    refine xm_one 11 (m' := 4095) rfl (by kernel_rfl) rfl (by kernel_rfl) (ef_store1 [] _ rfl rfl (by first | rfl | assumption) rfl rfl rfl ?_)
    refine ⟨(by first | exact Sb.refl | exact Sb.nil | (repeat (first | exact Sb.nil | exact Sb.refl | exact Sb.app0 | apply Sb.keep | apply Sb.keepApp | apply Sb.cons | apply Sb.app))), ?_⟩
    refine xm_done (by kernel_rfl) ?_
    refine xq_seq ?_
    refine xc_seq ?_
    refine xc_region ?_
    refine xo_rd (rd_loadB rfl Kn.o0 (by rfl)) rfl ?_
    refine xo_ef rfl (ef_storeB [_] _ rfl rfl (by first | rfl | assumption) rfl rfl rfl ?_)
    refine xo_nil ?_
    refine xq_seq ?_
    refine xc_ret ?_
    rotate_left
    refine xc_skip ?_
    refine xq_seq ?_
    refine xc_seq ?_
    refine xc_region ?_
    refine xo_rd (rd_loadB rfl Kn.o0 (by rfl)) rfl ?_
    refine xo_ef rfl (ef_storeB [_] _ rfl rfl (by first | rfl | assumption) rfl rfl rfl ?_)
    refine xo_nil ?_
    refine xq_seq ?_
    refine xc_ret ?_
    rotate_left
    refine xm_one 3 (m' := 24575) rfl (by kernel_rfl) rfl (by kernel_rfl) (ef_call rfl (XF.mono (xf_rntp now hn) ?_))
    rintro v L' ⟨rfl, rfl⟩
    refine ⟨(by first | exact Sb.refl | exact Sb.nil | (repeat (first | exact Sb.nil | exact Sb.refl | exact Sb.app0 | apply Sb.keep | apply Sb.keepApp | apply Sb.cons | apply Sb.app))), ?_⟩
    refine xm_take 13 (m' := 32767) rfl (by kernel_rfl) (by first | exact Sb.refl | exact Sb.nil | (repeat (first | exact Sb.nil | exact Sb.refl | exact Sb.app0 | apply Sb.keep | apply Sb.keepApp | apply Sb.cons | apply Sb.app))) (rd_build rfl rfl rfl) rfl (by kernel_rfl) ?_
    refine xm_one 15 (m' := 65535) rfl (by kernel_rfl) rfl (by kernel_rfl) (ef_storeB [] _ rfl rfl (by first | rfl | assumption) rfl rfl rfl ?_)
    refine ⟨(by first | exact Sb.refl | exact Sb.nil | (repeat (first | exact Sb.nil | exact Sb.refl | exact Sb.app0 | apply Sb.keep | apply Sb.keepApp | apply Sb.cons | apply Sb.app))), ?_⟩
    refine xm_done (by kernel_rfl) ?_
    refine xq_seq ?_
    refine xc_seq ?_
    refine xc_seq ?_
    refine xc_region ?_
    refine xo_rd (rd_fieldAddr rfl) rfl ?_
    refine xo_rd (rd_load1 rfl (Cl.o2 rfl)) rfl ?_
    refine xo_rd (rd_gtr rfl rfl) rfl ?_
    refine xo_nil ?_
    refine xq_seq ?_
    refine xc_dec rfl (fun h2 => ?_) (fun h2 => ?_)
    refine xc_drawM [0, 1, 0, 4, 0, 24, 32, 64, 128, 258, 1023, 2047] [0, 1, 0, 4, 0, 24, 32, 64, 128, 258, 1023, 2047] ([(r3, .cells [.int .u32 ss, .int .u64 pk, .int .u64 bt, .int .u32 otm, .int .u64 ti].toArray 67 (0, 0))]) (by kernel_rfl) (by kernel_rfl) (by kernel_rfl) ?_
    refine xm_take 0 (m' := 1) rfl (by kernel_rfl) (by first | exact Sb.refl | exact Sb.nil | (repeat (first | exact Sb.nil | exact Sb.refl | exact Sb.app0 | apply Sb.keep | apply Sb.keepApp | apply Sb.cons | apply Sb.app))) (rd_fieldAddr rfl) rfl (by kernel_rfl) ?_
    refine xm_take 1 (m' := 3) rfl (by kernel_rfl) (by first | exact Sb.refl | exact Sb.nil | (repeat (first | exact Sb.nil | exact Sb.refl | exact Sb.app0 | apply Sb.keep | apply Sb.keepApp | apply Sb.cons | apply Sb.app))) (rd_load1 rfl (Cl.o0 rfl)) rfl (by kernel_rfl) ?_
    refine xm_take 2 (m' := 7) rfl (by kernel_rfl) (by first | exact Sb.refl | exact Sb.nil | (repeat (first | exact Sb.nil | exact Sb.refl | exact Sb.app0 | apply Sb.keep | apply Sb.keepApp | apply Sb.cons | apply Sb.app))) (rd_fieldAddr rfl) rfl (by kernel_rfl) ?_
    refine xm_take 3 (m' := 15) rfl (by kernel_rfl) (by first | exact Sb.refl | exact Sb.nil | (repeat (first | exact Sb.nil | exact Sb.refl | exact Sb.app0 | apply Sb.keep | apply Sb.keepApp | apply Sb.cons | apply Sb.app))) (rd_load1 rfl (Cl.o0 rfl)) rfl (by kernel_rfl) ?_
    refine xm_take 4 (m' := 31) rfl (by kernel_rfl) (by first | exact Sb.refl | exact Sb.nil | (repeat (first | exact Sb.nil | exact Sb.refl | exact Sb.app0 | apply Sb.keep | apply Sb.keepApp | apply Sb.cons | apply Sb.app))) (rd_move rfl) rfl (by kernel_rfl) ?_
    refine xm_one 5 (m' := 63) rfl (by kernel_rfl) rfl (by kernel_rfl) (ef_call rfl (XF.mono (xf_rsince ti now ⟨t0, t1⟩ hn) ?_))
    rintro v L' ⟨rfl, rfl⟩
    refine ⟨(by first | exact Sb.refl | exact Sb.nil | (repeat (first | exact Sb.nil | exact Sb.refl | exact Sb.app0 | apply Sb.keep | apply Sb.keepApp | apply Sb.cons | apply Sb.app))), ?_⟩
    refine xm_take 6 (m' := 127) rfl (by kernel_rfl) (by first | exact Sb.refl | exact Sb.nil | (repeat (first | exact Sb.nil | exact Sb.refl | exact Sb.app0 | apply Sb.keep | apply Sb.keepApp | apply Sb.cons | apply Sb.app))) (rd_mul rfl rfl) rfl (by kernel_rfl) ?_
    refine xm_take 7 (m' := 255) rfl (by kernel_rfl) (by first | exact Sb.refl | exact Sb.nil | (repeat (first | exact Sb.nil | exact Sb.refl | exact Sb.app0 | apply Sb.keep | apply Sb.keepApp | apply Sb.cons | apply Sb.app))) (rd_rem rfl rfl (by decide)) rfl (by kernel_rfl) ?_
    refine xm_take 8 (m' := 511) rfl (by kernel_rfl) (by first | exact Sb.refl | exact Sb.nil | (repeat (first | exact Sb.nil | exact Sb.refl | exact Sb.app0 | apply Sb.keep | apply Sb.keepApp | apply Sb.cons | apply Sb.app))) (rd_conv rfl) rfl (by kernel_rfl) ?_
    refine xm_take 9 (m' := 1023) rfl (by kernel_rfl) (by first | exact Sb.refl | exact Sb.nil | (repeat (first | exact Sb.nil | exact Sb.refl | exact Sb.app0 | apply Sb.keep | apply Sb.keepApp | apply Sb.cons | apply Sb.app))) (rd_add rfl rfl) rfl (by kernel_rfl) ?_
    refine xm_take 10 (m' := 2047) rfl (by kernel_rfl) (by first | exact Sb.refl | exact Sb.nil | (repeat (first | exact Sb.nil | exact Sb.refl | exact Sb.app0 | apply Sb.keep | apply Sb.keepApp | apply Sb.cons | apply Sb.app))) (rd_fieldAddr rfl) rfl (by kernel_rfl) ?_
    refine xm_one 11 (m' := 4095) rfl (by kernel_rfl) rfl (by kernel_rfl) (ef_store1 [] _ rfl rfl (by first | rfl | assumption) rfl rfl rfl ?_)
    refine ⟨(by first | exact Sb.refl | exact Sb.nil | (repeat (first | exact Sb.nil | exact Sb.refl | exact Sb.app0 | apply Sb.keep | apply Sb.keepApp | apply Sb.cons | apply Sb.app))), ?_⟩
    refine xm_done (by kernel_rfl) ?_
    refine xq_seq ?_
    refine xc_seq ?_
    refine xc_region ?_
    refine xo_rd (rd_loadB rfl Kn.o0 (by rfl)) rfl ?_
    refine xo_ef rfl (ef_storeB [_] _ rfl rfl (by first | rfl | assumption) rfl rfl rfl ?_)
    refine xo_nil ?_
    refine xq_seq ?_
    refine xc_ret ?_
    rotate_left
    refine xc_skip ?_
    refine xq_seq ?_
    refine xc_seq ?_
    refine xc_region ?_
    refine xo_rd (rd_loadB rfl Kn.o0 (by rfl)) rfl ?_
    refine xo_ef rfl (ef_storeB [_] _ rfl rfl (by first | rfl | assumption) rfl rfl rfl ?_)
    refine xo_nil ?_
    refine xq_seq ?_
    refine xc_ret ?_
    rotate_left
  all_goals refine xq_retB (.inl rfl) Try.results29 rfl Kn.o1 rfl (List.sublist_append_right [_, _, _] _) ⟨?_, rfl⟩
  all_goals first
    | (show Value.agg #[.int .u32 ss, .int .u64 (ntpF now), .int .u32 (IntKind.u32.wrap (otm + IntKind.u32.wrap ((IntKind.u64.wrap (sinceF ti now * 90)).tmod 4294967296))), .int .u32 (pk % 4294967296), .int .u32 (bt % 4294967296), .slice p n c] = _
       rw [show IntKind.u32.wrap (otm + IntKind.u32.wrap ((IntKind.u64.wrap (sinceF ti now * 90)).tmod 4294967296)) = rtF ⟨ss, pk, bt, otm, ti⟩ now by
         obtain ⟨z0, z1⟩ := h8
         unfold rtF; dsimp only; rw [if_pos (by omega)]; simp only [IntKind.wrap_u32, wrap_u64]; rw [Int.tmod_eq_emod_of_nonneg (by omega)]; omega]; rfl)
    | (show Value.agg #[.int .u32 ss, .int .u64 (ntpF now), .int .u32 0, .int .u32 (pk % 4294967296), .int .u32 (bt % 4294967296), .slice p n c] = _
       rw [show (0 : Int) = rtF ⟨ss, pk, bt, otm, ti⟩ now by unfold rtF; dsimp only; rw [if_neg (by omega)]]; rfl)
theorem xf_rsent (o : Oo) (v0 v1 v2 v4 v5 v6 v7 v8 v10 : Value) (tm : Int) (p : Option Addr) (n c : Nat) (hn : n ≤ 1000000) (now : Int) :
    XF Try.prog W 30 #[.agg o.enc.toArray, .agg #[v0, v1, v2, .int .u32 tm, v4, v5, v6, v7, v8, .slice p n c, v10], .int .u64 now] L (fun v L' => v = .agg (o.sent n tm now).enc.toArray ∧ L' = L) := by
  refine xf_enter (args := [.agg o.enc.toArray, .agg #[v0, v1, v2, .int .u32 tm, v4, v5, v6, v7, v8, .slice p n c, v10], .int .u64 now]) Try.func30 rfl Try.ntmps30 rfl ?_
  obtain ⟨ss, pk, bt, otm, ti⟩ := o
  dsimp only [Oo.enc] at *
  focus
    refine xc_seq ?_
    refine xc_region ?_
    refine xo_ef rfl (ef_box rfl fun r3 => ?_)
    refine xo_ef rfl (ef_box rfl fun r4 => ?_)
    refine xo_ef rfl (ef_alloc fun r6 => ?_)
    refine xo_nil ?_
    refine xq_seq ?_
    refine xc_seq ?_
    refine xc_region ?_
    refine xo_rd (rd_fieldAddr rfl) rfl ?_
    refine xo_rd (rd_load1 rfl (Cl.o2 rfl)) rfl ?_
    refine xo_rd (rd_fieldAddr rfl) rfl ?_
    refine xo_rd (rd_load1 rfl (Cl.o2 rfl)) rfl ?_
    refine xo_rd (rd_add rfl rfl) rfl ?_
    refine xo_rd (rd_fieldAddr rfl) rfl ?_
    refine xo_rd (rd_load1 rfl (Cl.o2 rfl)) rfl ?_
    refine xo_rd (rd_fieldAddr rfl) rfl ?_
    refine xo_rd (rd_load1 rfl (Cl.o1 rfl)) rfl ?_
    refine xo_rd (rd_len rfl) rfl ?_
    refine xo_rd (rd_convn rfl (by omega) (by omega)) rfl ?_
    refine xo_rd (rd_add rfl rfl) rfl ?_
    refine xo_rd (rd_fieldAddr rfl) rfl ?_
    refine xo_rd (rd_load1 rfl (Cl.o1 rfl)) rfl ?_
    refine xo_rd (rd_move rfl) rfl ?_
    refine xo_rd (rd_build rfl rfl rfl) rfl ?_
    refine xo_ef rfl (ef_storeB [] _ rfl rfl (by first | rfl | assumption) rfl rfl rfl ?_)
    refine xo_nil ?_
    refine xq_seq ?_
    refine xc_ret ?_
  refine xq_retB (.inl rfl) Try.results30 rfl Kn.o0 rfl (List.sublist_append_right [_, _, _] _) ⟨?_, rfl⟩
  show Value.agg #[.int .u32 ss, .int .u64 (IntKind.u64.wrap (pk + 1)), .int .u64 (IntKind.u64.wrap (bt + n)), .int .u32 tm, .int .u64 now] = _
  simp only [wrap_u64]; rfl
theorem xf_heard0 (x : Sn) (v : Value) (now : Int) (hn : U8 x.nt) : XF Try.prog W 19 #[.pointer none, .agg (x.enc v).toArray, .int .u64 now] L (fun v L' => v = .tuple #[] ∧ L' = L) := by
  refine xf_enter (args := [.pointer none, .agg (x.enc v).toArray, .int .u64 now]) Try.func19 rfl Try.ntmps19 rfl ?_
  focus
    refine xc_seq ?_
    refine xc_region ?_
    refine xo_ef rfl (ef_box rfl fun r4 => ?_)
    refine xo_nil ?_
    refine xq_seq ?_
    refine xc_seq ?_
    refine xc_region ?_
    refine xo_rd (rd_move rfl) rfl ?_
    refine xo_rd (rd_nenil rfl) rfl ?_
    refine xo_nil ?_
    refine xq_seq ?_
    refine xc_condf rfl ?_
    refine xc_skip ?_
    exact xq_tail (xq_ret0 (.inr rfl) Try.results19 (⟨rfl, rfl⟩))
theorem xf_block0 (x : Bk) (now : Int) : XF Try.prog W 17 #[.pointer none, .agg x.enc.toArray, .int .u64 now] L (fun v L' => v = .agg x.enc.toArray ∧ L' = L) := by
  refine xf_enter (args := [.pointer none, .agg x.enc.toArray, .int .u64 now]) Try.func17 rfl Try.ntmps17 rfl ?_
  focus
    refine xc_seq ?_
    refine xc_region ?_
    refine xo_ef rfl (ef_box rfl fun r4 => ?_)
    refine xo_ef rfl (ef_alloc fun r6 => ?_)
    refine xo_nil ?_
    refine xq_seq ?_
    refine xc_seq ?_
    refine xc_seq ?_
    refine xc_region ?_
    refine xo_rd (rd_move rfl) rfl ?_
    refine xo_rd (rd_eqnil rfl) rfl ?_
    refine xo_nil ?_
    refine xq_seq ?_
    refine xc_condt rfl ?_
    refine xc_seq ?_
    refine xc_region ?_
    refine xo_rd (rd_loadB rfl Kn.o1 (by rfl)) rfl ?_
    refine xo_ef rfl (ef_storeB [] _ rfl rfl (by first | rfl | assumption) rfl rfl rfl ?_)
    refine xo_nil ?_
    refine xq_seq ?_
    refine xc_ret ?_
    refine xq_then_ret ?_
  exact xq_retB (.inl rfl) Try.results17 rfl Kn.o0 rfl (List.sublist_append_right [_, _] _) ⟨rfl, rfl⟩
end
end Go.Proofs.Ytogilblilljpmaa.X
/-
  The report layer's compound, by walks of my own.
-/
namespace Go.Proofs.Ytogilblilljpmaa.X
open Go Go.RowKit
set_option linter.unusedVariables false
set_option linter.unusedSimpArgs false
def cmpA (o : Oo) (now : Int) (xs : List Bk) : Pc × Int := if 0 < o.pk then sndR (sndF o now xs) else rcvR o.ss xs
def cmpF (o : Oo) (now : Int) (nm : ByteArray) (xs : List Bk) : List Int × Int :=
  if (cmpA o now xs).2 ≠ 0 ∨ (putCh [⟨o.ss, nm⟩]).2 ≠ 0 then ([], 2) else joinL [(cmpA o now xs).1, (putCh [⟨o.ss, nm⟩]).1]
theorem cmpA_rg {o : Oo} {now : Int} {xs : List Bk} (ho : o.Rg) (hn : U8 now) (hx : ∀ x, x ∈ xs → x.Rg) : (cmpA o now xs).1.Rg := by
  unfold cmpA; split
  · exact sndR_rg (sndF_rg ho hn hx)
  · exact rcvR_rg ho.ss hx
theorem cmpA_len (o : Oo) (now : Int) (xs : List Bk) : (cmpA o now xs).1.bd.length ≤ 24 + 24 * xs.length := by
  unfold cmpA; split
  · exact sndR_len (sndF o now xs)
  · exact rcvR_len o.ss xs
section
variable {W : World} {L : List Blk}
set_option maxHeartbeats 4000000 in
theorem xf_compound (b : Nat) (o : Oo) (ho : o.Rg) (nm : ByteArray) (now : Int) (hn : U8 now) (p : Option Addr) (n c : Nat) (xs : List Bk) (hx : xs.length = n) (hr : Rs W L p (xs.flatMap Bk.enc)) (hg : ∀ x, x ∈ xs → x.Rg) (hm : n ≤ 1000) :
    XF Try.prog W 23 #[.pointer (some ⟨b, 0, none⟩), .string nm, .int .u64 now, .slice p n c] (o.blk b :: L) (JnM (o.blk b :: L) (cmpF o now nm xs)) := by
  obtain ⟨⟨q1, e1⟩, hz1⟩ : ∃ z, rcvR o.ss xs = z := ⟨_, rfl⟩
  obtain ⟨⟨q2, e2⟩, hz2⟩ : ∃ z, sndR (sndF o now xs) = z := ⟨_, rfl⟩
  obtain ⟨⟨q3, e3⟩, hz3⟩ : ∃ z, putCh [⟨o.ss, nm⟩] = z := ⟨_, rfl⟩
  refine xf_enter (args := [.pointer (some ⟨b, 0, none⟩), .string nm, .int .u64 now, .slice p n c]) Try.func23 rfl Try.ntmps23 rfl ?_
  subst hx
  have hsr : (sndF o now xs).Rg := sndF_rg ho hn hg
  have hcA : cmpA o now xs = if 0 < o.pk then (q2, e2) else (q1, e1) := by unfold cmpA; rw [hz1, hz2]
  focus
    refine xc_seq ?_
    refine xc_region ?_
    refine xo_rd (rd_assign rfl) rfl ?_
    refine xo_rd (rd_assign rfl) rfl ?_
    refine xo_nil ?_
    refine xq_seq ?_
    refine xc_seq ?_
    refine xc_region ?_
    refine xo_rd (rd_move rfl) rfl ?_
    refine xo_rd (rd_move rfl) rfl ?_
    refine xo_rd (rd_move rfl) rfl ?_
    refine xo_ef rfl (ef_call rfl (XF.mono (xf_tell b o ho now hn p xs.length c xs rfl (hr.mono (by intro z hz; simp [hz])) (by omega)) ?_))
    rintro v L' ⟨s, k, l, rfl, hO, rfl⟩
    refine xo_seg [_] l _ ?_
    refine xo_ef rfl (ef_alloc fun r10 => ?_)
    refine xo_ef rfl (ef_storeB [] _ rfl rfl (by first | rfl | assumption) rfl rfl rfl ?_)
    refine xo_nil ?_
    refine xq_seq ?_
    refine xc_seq ?_
    refine xc_region ?_
    refine xo_rd (rd_fieldAddr rfl) rfl ?_
    refine xo_rd (rd_load1 rfl (Cl.o0 rfl)) rfl ?_
    refine xo_rd (rd_move rfl) rfl ?_
    refine xo_rd (rd_build rfl rfl rfl) rfl ?_
    refine xo_ef rfl (ef_call rfl (XF.mono (xg_receiver o.ss ho.ss p xs.length c xs q1 e1 hz1 rfl (hr.mono (by intro z hz; simp [hz])) hg (by omega)) ?_))
    rintro v L' ⟨x1, rfl, hq1, ho1, rfl⟩
    refine xo_seg [_, _] x1.l _ ?_
    refine xo_rd (rd_move rfl) rfl ?_
    refine xo_rd (rd_extract rfl rfl) rfl ?_
    refine xo_rd (rd_extract rfl rfl) rfl ?_
    refine xo_ef rfl (ef_alloc fun r11 => ?_)
    refine xo_ef rfl (ef_storeB [] _ rfl rfl (by first | rfl | assumption) rfl rfl rfl ?_)
    refine xo_rd (rd_assign rfl) rfl ?_
    refine xo_nil ?_
    refine xq_seq ?_
  refine xc_join (ι := Pb × Int) (fun z => cmpA o now xs = (z.1.q, z.2) ∧ z.1.Ok) (fun z => (r11, .cells z.1.enc.toArray 81 (0, 0)) :: (r10, .cells ((sndF o now xs).enc (.slice s (sndF o now xs).bl.length k)).toArray 43 (0, 0)) :: o.blk b :: (z.1.l ++ L)) (fun z => [(1, .string nm), (10, .pointer (some ⟨r10, 0, none⟩)), (11, .pointer (some ⟨r11, 0, none⟩)), (12, .int .i64 z.2)]) ?_ ?_
  · skip
    focus
      refine xc_seq ?_
      refine xc_region ?_
      refine xo_rd (rd_move rfl) rfl ?_
      refine xo_ef rfl (ef_call rfl (XF.mono (XF.mid [_, _] (xf_oany b o)) ?_))
      rintro v L' ⟨rfl, rfl⟩
      refine xo_mid [_, _] ?_
      refine xo_nil ?_
      refine xq_seq ?_
      refine xc_dec rfl (fun hp1 => ?_) (fun hp1 => ?_)
      refine xc_region ?_
      refine xo_rd (rd_loadB rfl Kn.o1 (by rfl)) rfl ?_
      refine xo_ef rfl (ef_call rfl (XF.mono (xg_sender (sndF o now xs) hsr s k q2 e2 hz2 (hO.rs (by intro z hz; simp [hz])) (by show xs.length ≤ 1000000; omega)) ?_))
      rintro v L' ⟨x2, rfl, hq2, ho2, rfl⟩
      refine xo_seg [_, _, _] x2.l _ ?_
      refine xo_rd (rd_move rfl) rfl ?_
      refine xo_rd (rd_extract rfl rfl) rfl ?_
      refine xo_rd (rd_extract rfl rfl) rfl ?_
      refine xo_ef rfl (ef_storeB [] _ rfl rfl (by first | rfl | assumption) rfl rfl rfl ?_)
      refine xo_rd (rd_assign rfl) rfl ?_
      refine xo_nil ?_
      rotate_left
      refine xc_skip ?_
      rotate_left
    · refine xq_sb (M := (r11, .cells x2.enc.toArray 81 (0, 0)) :: (r10, .cells ((sndF o now xs).enc (.slice s (sndF o now xs).bl.length k)).toArray 43 (0, 0)) :: o.blk b :: (x2.l ++ L)) (by first | exact Sb.refl | exact Sb.nil | (repeat (first | exact Sb.nil | exact Sb.refl | exact Sb.app0 | apply Sb.keep | apply Sb.keepApp | apply Sb.cons | apply Sb.app))) (xq_joined (x2, e2) ⟨by rw [hcA, if_pos (by omega), hq2], ho2⟩ rfl (by repeat (first | exact keep_nil | refine keep_cons rfl ?_)))
    · refine xq_sb (M := (r11, .cells x1.enc.toArray 81 (0, 0)) :: (r10, .cells ((sndF o now xs).enc (.slice s (sndF o now xs).bl.length k)).toArray 43 (0, 0)) :: o.blk b :: (x1.l ++ L)) (by first | exact Sb.refl | exact Sb.nil | (repeat (first | exact Sb.nil | exact Sb.refl | exact Sb.app0 | apply Sb.keep | apply Sb.keepApp | apply Sb.cons | apply Sb.app))) (xq_joined (x1, e1) ⟨by rw [hcA, if_neg (by omega), hq1], ho1⟩ rfl (by repeat (first | exact keep_nil | refine keep_cons rfl ?_)))
  rintro ⟨x, e⟩ ⟨hA, hox⟩
  have hxg : x.q.Rg := by have h1 := congrArg Prod.fst hA; dsimp only at h1; rw [← h1]; exact cmpA_rg ho hn hg
  have hxm : x.q.bd.length ≤ 1000000 := by have h1 := congrArg Prod.fst hA; dsimp only at h1; rw [← h1]; have := cmpA_len o now xs; omega
  dsimp only at hA hox ⊢
  focus
    refine xc_seq ?_
    refine xc_region ?_
    refine xo_rd (rd_fieldAddr rfl) rfl ?_
    refine xo_rd (rd_load1 rfl (Cl.o1 rfl)) rfl ?_
    refine xo_rd (rd_move rfl) rfl ?_
    refine xo_rd (rd_build rfl rfl rfl) rfl ?_
  refine xo_ef rfl (ef_sliceA (vs := (Ck.mk o.ss nm).enc) rfl rfl (by show (2 : Nat) ≠ 0; decide) (by show (2 : Nat) ≤ 1000; decide) fun r39 => ?_)
  focus
    refine xo_ef rfl (ef_call rfl (XF.mono (xg_chunks (some ⟨r39, 0, none⟩) 1 1 [⟨o.ss, nm⟩] q3 e3 hz3 rfl (Rs.fresh (vs := (Ck.mk o.ss nm).enc) (List.Mem.head _)) (fun x h => by rw [List.mem_singleton.1 h]; exact ho.ss) (by decide)) ?_))
    rintro v L' ⟨y, rfl, hq3, ho3, rfl⟩
    refine xo_seg [_, _, _, _] y.l _ ?_
    refine xo_rd (rd_move rfl) rfl ?_
    refine xo_rd (rd_extract rfl rfl) rfl ?_
    refine xo_rd (rd_extract rfl rfl) rfl ?_
    refine xo_ef rfl (ef_alloc fun r13 => ?_)
    refine xo_ef rfl (ef_storeB [] _ rfl rfl (by first | rfl | assumption) rfl rfl rfl ?_)
    refine xo_rd (rd_assign rfl) rfl ?_
    refine xo_nil ?_
    refine xq_seq ?_
  have hyg : y.q.Rg := by rw [hq3]; have := putCh_rg (xs := [⟨o.ss, nm⟩]) (fun x h => by rw [List.mem_singleton.1 h]; exact ho.ss); rw [hz3] at this; exact this
  have hym : y.q.bd.length ≤ 1000000 := by rw [hq3]; have := putCh_len [⟨o.ss, nm⟩]; rw [hz3] at this; dsimp only [List.length] at this; omega
  obtain ⟨⟨out, eo⟩, hz4⟩ : ∃ z, joinL ([x, y].map Pb.q) = z := ⟨_, rfl⟩
  have hF : cmpF o now nm xs = if e ≠ 0 ∨ e3 ≠ 0 then ([], 2) else (out, eo) := by
    unfold cmpF; rw [hA, hz3]; dsimp only; rw [← hz4, ← hq3]; rfl
  focus
    refine xc_seq ?_
    refine xc_seq ?_
    refine xc_region ?_
    refine xo_rd (rd_move rfl) rfl ?_
    refine xo_rd (rd_neq rfl rfl) rfl ?_
    refine xo_rd (rd_move rfl) rfl ?_
    refine xo_ndec 45 rfl (fun he1 => ?_) (fun he1 => ?_)
    refine xo_gskip rfl rfl rfl rfl ?_
    refine xo_gskip rfl rfl rfl rfl ?_
    refine xo_rd (rd_pickt rfl rfl) rfl ?_
    refine xo_nil ?_
    refine xq_seq ?_
    refine xc_condt rfl ?_
    refine xc_seq ?_
    refine xc_region ?_
    refine xo_rd (rd_assign rfl) rfl ?_
    refine xo_rd (rd_assign rfl) rfl ?_
    refine xo_nil ?_
    refine xq_seq ?_
    refine xc_ret ?_
    refine xq_then_ret ?_
    rotate_left
    refine xo_grd rfl rfl (rd_move rfl) rfl ?_
    refine xo_grd rfl rfl (rd_neq rfl rfl) rfl ?_
    refine xo_rd (rd_pickf rfl rfl) rfl ?_
    refine xo_nil ?_
    refine xq_seq ?_
    refine xc_ndec rfl (fun he2 => ?_) (fun he2 => ?_)
    refine xc_seq ?_
    refine xc_region ?_
    refine xo_rd (rd_assign rfl) rfl ?_
    refine xo_rd (rd_assign rfl) rfl ?_
    refine xo_nil ?_
    refine xq_seq ?_
    refine xc_ret ?_
    refine xq_then_ret ?_
    rotate_left
    refine xc_skip ?_
    refine xq_seq ?_
    refine xc_seq ?_
    refine xc_region ?_
    refine xo_rd (rd_loadB rfl Kn.o2 (by rfl)) rfl ?_
    refine xo_rd (rd_loadB rfl Kn.o0 (by rfl)) rfl ?_
    rotate_left
  · refine xq_sb (M := o.blk b :: L) (by first | exact Sb.refl | exact Sb.nil | (repeat (first | exact Sb.nil | exact Sb.refl | exact Sb.app0 | apply Sb.keep | apply Sb.keepApp | apply Sb.cons | apply Sb.app))) (xq_ret2 (.inl rfl) Try.results23 rfl rfl ?_)
    rw [hF, if_pos (by omega)]; exact JnM.err 2
  · refine xq_sb (M := o.blk b :: L) (by first | exact Sb.refl | exact Sb.nil | (repeat (first | exact Sb.nil | exact Sb.refl | exact Sb.app0 | apply Sb.keep | apply Sb.keepApp | apply Sb.cons | apply Sb.app))) (xq_ret2 (.inl rfl) Try.results23 rfl rfl ?_)
    rw [hF, if_pos (by omega)]; exact JnM.err 2
  · refine xo_ef rfl (ef_buildL (T := 75) (len := 2) (s := 4) (cells := ([x, y].flatMap Pb.enc).toArray) rfl (by decide) (by decide) (by kernel_rfl) fun r51 => ?_)
    have hx1 : ∀ L', (∀ z, z ∈ x.l → z ∈ L') → Rs W L' x.p (ints .u8 x.q.bd) := fun L' h => SlO.rs hox h
    have hy1 : ∀ L', (∀ z, z ∈ y.l → z ∈ L') → Rs W L' y.p (ints .u8 y.q.bd) := fun L' h => SlO.rs ho3 h
    focus
      refine xo_ef rfl (ef_call rfl (XF.mono (xf_join2 (some ⟨r51, 0, none⟩) 2 2 [x, y] out eo hz4 rfl ⟨Rs.fresh (List.Mem.head _), (fun z h => by simp only [List.mem_cons, List.not_mem_nil, or_false] at h; rcases h with rfl | rfl; exact hx1 _ (by intro z hz; simp [hz]); exact hy1 _ (by intro z hz; simp [hz])), (fun z h => by simp only [List.mem_cons, List.not_mem_nil, or_false] at h; rcases h with rfl | rfl; exact hxg; exact hyg), (fun z h => by simp only [List.mem_cons, List.not_mem_nil, or_false] at h; rcases h with rfl | rfl; exact hxm; exact hym)⟩ (by decide)) ?_))
      rintro v L' ⟨s5, k5, l5, rfl, hO5, rfl⟩
      refine xo_rd (rd_extract rfl rfl) rfl ?_
      refine xo_rd (rd_extract rfl rfl) rfl ?_
      refine xo_rd (rd_assign rfl) rfl ?_
      refine xo_rd (rd_assign rfl) rfl ?_
      refine xo_nil ?_
      refine xq_seq ?_
      refine xc_ret ?_
    refine xq_sb (M := l5 ++ (o.blk b :: L)) (by first | exact Sb.refl | exact Sb.nil | (repeat (first | exact Sb.nil | exact Sb.refl | exact Sb.app0 | apply Sb.keep | apply Sb.keepApp | apply Sb.cons | apply Sb.app))) (xq_ret2 (.inl rfl) Try.results23 rfl rfl ?_)
    rw [hF, if_neg (by omega)]
    exact ⟨s5, k5, l5, rfl, hO5, rfl⟩
set_option maxHeartbeats 4000000 in
theorem xf_compound0 (nm : ByteArray) (now : Int) (hn : U8 now) (p : Option Addr) (n c : Nat) (xs : List Bk) (hx : xs.length = n) (hr : Rs W L p (xs.flatMap Bk.enc)) (hg : ∀ x, x ∈ xs → x.Rg) (hm : n ≤ 1000) :
    XF Try.prog W 23 #[.pointer none, .string nm, .int .u64 now, .slice p n c] L (JnM L (cmpF (Oo.new 0) now nm xs)) := by
  obtain ⟨⟨q1, e⟩, hz1⟩ : ∃ z, rcvR 0 xs = z := ⟨_, rfl⟩
  obtain ⟨⟨q3, e3⟩, hz3⟩ : ∃ z, putCh [⟨0, nm⟩] = z := ⟨_, rfl⟩
  have hz3' : putCh [⟨(Oo.new 0).ss, nm⟩] = (q3, e3) := hz3
  refine xf_enter (args := [.pointer none, .string nm, .int .u64 now, .slice p n c]) Try.func23 rfl Try.ntmps23 rfl ?_
  subst hx
  have hcA : cmpA (Oo.new 0) now xs = (q1, e) := by unfold cmpA; rw [if_neg (by decide), show (Oo.new 0).ss = 0 from rfl, hz1]
  focus
    refine xc_seq ?_
    refine xc_region ?_
    refine xo_rd (rd_assign rfl) rfl ?_
    refine xo_rd (rd_assign rfl) rfl ?_
    refine xo_nil ?_
    refine xq_seq ?_
    refine xc_seq ?_
    refine xc_region ?_
    refine xo_rd (rd_move rfl) rfl ?_
    refine xo_rd (rd_move rfl) rfl ?_
    refine xo_rd (rd_move rfl) rfl ?_
    refine xo_ef rfl (ef_call rfl (XF.mono (xf_tell0 now hn p xs.length c xs rfl (hr.mono (by intro z hz; simp [hz])) (by omega)) ?_))
    rintro v L' ⟨s, k, l, rfl, hO, rfl⟩
    refine xo_ef rfl (ef_alloc fun r10 => ?_)
    refine xo_ef rfl (ef_storeB [] _ rfl rfl (by first | rfl | assumption) rfl rfl rfl ?_)
    refine xo_nil ?_
    refine xq_seq ?_
    refine xc_seq ?_
    refine xc_region ?_
    refine xo_rd (rd_fieldAddr rfl) rfl ?_
    refine xo_rd (rd_load1 rfl (Cl.o0 rfl)) rfl ?_
    refine xo_rd (rd_move rfl) rfl ?_
    refine xo_rd (rd_build rfl rfl rfl) rfl ?_
    refine xo_ef rfl (ef_call rfl (XF.mono (xg_receiver 0 u4_0 p xs.length c xs q1 e hz1 rfl (hr.mono (by intro z hz; simp [hz])) hg (by omega)) ?_))
    rintro v L' ⟨x, rfl, hq1, hox, rfl⟩
    refine xo_seg [_] x.l _ ?_
    refine xo_rd (rd_move rfl) rfl ?_
    refine xo_rd (rd_extract rfl rfl) rfl ?_
    refine xo_rd (rd_extract rfl rfl) rfl ?_
    refine xo_ef rfl (ef_alloc fun r11 => ?_)
    refine xo_ef rfl (ef_storeB [] _ rfl rfl (by first | rfl | assumption) rfl rfl rfl ?_)
    refine xo_rd (rd_assign rfl) rfl ?_
    refine xo_nil ?_
    refine xq_seq ?_
  have hA : cmpA (Oo.new 0) now xs = (x.q, e) := by rw [hcA, hq1]
  have hxg : x.q.Rg := by have h1 := congrArg Prod.fst hA; dsimp only at h1; rw [← h1]; exact cmpA_rg (Oo.new_rg u4_0) hn hg
  have hxm : x.q.bd.length ≤ 1000000 := by have h1 := congrArg Prod.fst hA; dsimp only at h1; rw [← h1]; have := cmpA_len (Oo.new 0) now xs; omega
  focus
    refine xc_seq ?_
    refine xc_seq ?_
    refine xc_region ?_
    refine xo_rd (rd_move rfl) rfl ?_
    refine xo_ef rfl (ef_call rfl (XF.mono (xf_oany0) ?_))
    rintro v L' ⟨rfl, rfl⟩
    refine xo_nil ?_
    refine xq_seq ?_
    refine xc_condf rfl ?_
    refine xc_skip ?_
    refine xq_seq ?_
    refine xc_seq ?_
    refine xc_region ?_
    refine xo_rd (rd_fieldAddr rfl) rfl ?_
    refine xo_rd (rd_load1 rfl (Cl.o1 rfl)) rfl ?_
    refine xo_rd (rd_move rfl) rfl ?_
    refine xo_rd (rd_build rfl rfl rfl) rfl ?_
  refine xo_ef rfl (ef_sliceA (vs := (Ck.mk 0 nm).enc) rfl rfl (by show (2 : Nat) ≠ 0; decide) (by show (2 : Nat) ≤ 1000; decide) fun r39 => ?_)
  focus
    refine xo_ef rfl (ef_call rfl (XF.mono (xg_chunks (some ⟨r39, 0, none⟩) 1 1 [⟨0, nm⟩] q3 e3 hz3 rfl (Rs.fresh (vs := (Ck.mk 0 nm).enc) (List.Mem.head _)) (fun x h => by rw [List.mem_singleton.1 h]; exact u4_0) (by decide)) ?_))
    rintro v L' ⟨y, rfl, hq3, ho3, rfl⟩
    refine xo_seg [_, _, _] y.l _ ?_
    refine xo_rd (rd_move rfl) rfl ?_
    refine xo_rd (rd_extract rfl rfl) rfl ?_
    refine xo_rd (rd_extract rfl rfl) rfl ?_
    refine xo_ef rfl (ef_alloc fun r13 => ?_)
    refine xo_ef rfl (ef_storeB [] _ rfl rfl (by first | rfl | assumption) rfl rfl rfl ?_)
    refine xo_rd (rd_assign rfl) rfl ?_
    refine xo_nil ?_
    refine xq_seq ?_
  have hyg : y.q.Rg := by rw [hq3]; have := putCh_rg (xs := [⟨0, nm⟩]) (fun x h => by rw [List.mem_singleton.1 h]; exact u4_0); rw [hz3] at this; exact this
  have hym : y.q.bd.length ≤ 1000000 := by rw [hq3]; have := putCh_len [⟨0, nm⟩]; rw [hz3] at this; dsimp only [List.length] at this; omega
  obtain ⟨⟨out, eo⟩, hz4⟩ : ∃ z, joinL ([x, y].map Pb.q) = z := ⟨_, rfl⟩
  have hF : cmpF (Oo.new 0) now nm xs = if e ≠ 0 ∨ e3 ≠ 0 then ([], 2) else (out, eo) := by
    unfold cmpF; rw [hA, hz3']; dsimp only; rw [← hz4, ← hq3]; rfl
  focus
    refine xc_seq ?_
    refine xc_seq ?_
    refine xc_region ?_
    refine xo_rd (rd_move rfl) rfl ?_
    refine xo_rd (rd_neq rfl rfl) rfl ?_
    refine xo_rd (rd_move rfl) rfl ?_
    refine xo_ndec 45 rfl (fun he1 => ?_) (fun he1 => ?_)
    refine xo_gskip rfl rfl rfl rfl ?_
    refine xo_gskip rfl rfl rfl rfl ?_
    refine xo_rd (rd_pickt rfl rfl) rfl ?_
    refine xo_nil ?_
    refine xq_seq ?_
    refine xc_condt rfl ?_
    refine xc_seq ?_
    refine xc_region ?_
    refine xo_rd (rd_assign rfl) rfl ?_
    refine xo_rd (rd_assign rfl) rfl ?_
    refine xo_nil ?_
    refine xq_seq ?_
    refine xc_ret ?_
    refine xq_then_ret ?_
    rotate_left
    refine xo_grd rfl rfl (rd_move rfl) rfl ?_
    refine xo_grd rfl rfl (rd_neq rfl rfl) rfl ?_
    refine xo_rd (rd_pickf rfl rfl) rfl ?_
    refine xo_nil ?_
    refine xq_seq ?_
    refine xc_ndec rfl (fun he2 => ?_) (fun he2 => ?_)
    refine xc_seq ?_
    refine xc_region ?_
    refine xo_rd (rd_assign rfl) rfl ?_
    refine xo_rd (rd_assign rfl) rfl ?_
    refine xo_nil ?_
    refine xq_seq ?_
    refine xc_ret ?_
    refine xq_then_ret ?_
    rotate_left
    refine xc_skip ?_
    refine xq_seq ?_
    refine xc_seq ?_
    refine xc_region ?_
    refine xo_rd (rd_loadB rfl Kn.o2 (by rfl)) rfl ?_
    refine xo_rd (rd_loadB rfl Kn.o0 (by rfl)) rfl ?_
    rotate_left
  · refine xq_sb (M := L) (by first | exact Sb.refl | exact Sb.nil | (repeat (first | exact Sb.nil | exact Sb.refl | exact Sb.app0 | apply Sb.keep | apply Sb.keepApp | apply Sb.cons | apply Sb.app))) (xq_ret2 (.inl rfl) Try.results23 rfl rfl ?_)
    rw [hF, if_pos (by omega)]; exact JnM.err 2
  · refine xq_sb (M := L) (by first | exact Sb.refl | exact Sb.nil | (repeat (first | exact Sb.nil | exact Sb.refl | exact Sb.app0 | apply Sb.keep | apply Sb.keepApp | apply Sb.cons | apply Sb.app))) (xq_ret2 (.inl rfl) Try.results23 rfl rfl ?_)
    rw [hF, if_pos (by omega)]; exact JnM.err 2
  · refine xo_ef rfl (ef_buildL (T := 75) (len := 2) (s := 4) (cells := ([x, y].flatMap Pb.enc).toArray) rfl (by decide) (by decide) (by kernel_rfl) fun r51 => ?_)
    have hx1 : ∀ L', (∀ z, z ∈ x.l → z ∈ L') → Rs W L' x.p (ints .u8 x.q.bd) := fun L' h => SlO.rs hox h
    have hy1 : ∀ L', (∀ z, z ∈ y.l → z ∈ L') → Rs W L' y.p (ints .u8 y.q.bd) := fun L' h => SlO.rs ho3 h
    focus
      refine xo_ef rfl (ef_call rfl (XF.mono (xf_join2 (some ⟨r51, 0, none⟩) 2 2 [x, y] out eo hz4 rfl ⟨Rs.fresh (List.Mem.head _), (fun z h => by simp only [List.mem_cons, List.not_mem_nil, or_false] at h; rcases h with rfl | rfl; exact hx1 _ (by intro z hz; simp [hz]); exact hy1 _ (by intro z hz; simp [hz])), (fun z h => by simp only [List.mem_cons, List.not_mem_nil, or_false] at h; rcases h with rfl | rfl; exact hxg; exact hyg), (fun z h => by simp only [List.mem_cons, List.not_mem_nil, or_false] at h; rcases h with rfl | rfl; exact hxm; exact hym)⟩ (by decide)) ?_))
      rintro v L' ⟨s5, k5, l5, rfl, hO5, rfl⟩
      refine xo_rd (rd_extract rfl rfl) rfl ?_
      refine xo_rd (rd_extract rfl rfl) rfl ?_
      refine xo_rd (rd_assign rfl) rfl ?_
      refine xo_rd (rd_assign rfl) rfl ?_
      refine xo_nil ?_
      refine xq_seq ?_
      refine xc_ret ?_
    refine xq_sb (M := l5 ++ L) (by first | exact Sb.refl | exact Sb.nil | (repeat (first | exact Sb.nil | exact Sb.refl | exact Sb.app0 | apply Sb.keep | apply Sb.keepApp | apply Sb.cons | apply Sb.app))) (xq_ret2 (.inl rfl) Try.results23 rfl rfl ?_)
    rw [hF, if_neg (by omega)]
    exact ⟨s5, k5, l5, rfl, hO5, rfl⟩
set_option maxHeartbeats 4000000 in
theorem xf_rcompound (o : Oo) (ho : o.Rg) (nm : ByteArray) (now : Int) (hn : U8 now) (p : Option Addr) (n c : Nat) (xs : List Bk) (hx : xs.length = n) (hr : Rs W L p (xs.flatMap Bk.enc)) (hg : ∀ x, x ∈ xs → x.Rg) (hm : n ≤ 1000) :
    XF Try.prog W 32 #[.agg o.enc.toArray, .string nm, .int .u64 now, .slice p n c] L (JnM L (cmpF o now nm xs)) := by
  obtain ⟨⟨q1, e1⟩, hz1⟩ : ∃ z, rcvR o.ss xs = z := ⟨_, rfl⟩
  obtain ⟨⟨q2, e2⟩, hz2⟩ : ∃ z, sndR (sndF o now xs) = z := ⟨_, rfl⟩
  obtain ⟨⟨q3, e3⟩, hz3⟩ : ∃ z, putCh [⟨o.ss, nm⟩] = z := ⟨_, rfl⟩
  have hz3' := hz3
  refine xf_enter (args := [.agg o.enc.toArray, .string nm, .int .u64 now, .slice p n c]) Try.func32 rfl Try.ntmps32 rfl ?_
  subst hx
  have hsr : (sndF o now xs).Rg := sndF_rg ho hn hg
  have hcA : cmpA o now xs = if 0 < o.pk then (q2, e2) else (q1, e1) := by unfold cmpA; rw [hz1, hz2]
  focus
    refine xc_seq ?_
    refine xc_region ?_
    refine xo_ef rfl (ef_box rfl fun r4 => ?_)
    refine xo_rd (rd_assign rfl) rfl ?_
    refine xo_rd (rd_assign rfl) rfl ?_
    refine xo_nil ?_
    refine xq_seq ?_
    refine xc_seq ?_
    refine xc_region ?_
    refine xo_rd (rd_fieldAddr rfl) rfl ?_
    refine xo_rd (rd_load1 rfl (Cl.o0 rfl)) rfl ?_
    refine xo_rd (rd_move rfl) rfl ?_
    refine xo_rd (rd_build rfl rfl rfl) rfl ?_
    refine xo_ef rfl (ef_call rfl (XF.mono (xg_rreceiver o.ss ho.ss p xs.length c xs q1 e1 hz1 rfl (hr.mono (by intro z hz; simp [hz])) hg (by omega)) ?_))
    rintro v L' ⟨x1, rfl, hq1, ho1, rfl⟩
    refine xo_seg [_] x1.l _ ?_
    refine xo_rd (rd_move rfl) rfl ?_
    refine xo_rd (rd_extract rfl rfl) rfl ?_
    refine xo_rd (rd_extract rfl rfl) rfl ?_
    refine xo_ef rfl (ef_alloc fun r10 => ?_)
    refine xo_ef rfl (ef_storeB [] _ rfl rfl (by first | rfl | assumption) rfl rfl rfl ?_)
    refine xo_rd (rd_assign rfl) rfl ?_
    refine xo_nil ?_
    refine xq_seq ?_
  refine xc_join (ι := Pb × Int) (fun z => cmpA o now xs = (z.1.q, z.2) ∧ z.1.Ok) (fun z => (r10, .cells z.1.enc.toArray 115 (0, 0)) :: (r4, .cells o.enc.toArray 67 (0, 0)) :: (z.1.l ++ L)) (fun z => [(1, .string nm), (4, .pointer (some ⟨r4, 0, none⟩)), (10, .pointer (some ⟨r10, 0, none⟩)), (11, .int .i64 z.2)]) ?_ ?_
  · skip
    focus
      refine xc_seq ?_
      refine xc_region ?_
      refine xo_rd (rd_fieldAddr rfl) rfl ?_
      refine xo_rd (rd_load1 rfl (Cl.o1 rfl)) rfl ?_
      refine xo_rd (rd_gtr rfl rfl) rfl ?_
      refine xo_nil ?_
      refine xq_seq ?_
      refine xc_dec rfl (fun hp1 => ?_) (fun hp1 => ?_)
      refine xc_region ?_
      refine xo_rd (rd_loadB rfl Kn.o1 (by rfl)) rfl ?_
      refine xo_rd (rd_move rfl) rfl ?_
      refine xo_rd (rd_move rfl) rfl ?_
      refine xo_ef rfl (ef_call rfl (XF.mono (xf_rtell o ho now hn p xs.length c xs) ?_))
      rintro v L' ⟨rfl, rfl⟩
      refine xo_ef rfl (ef_call rfl (XF.mono (xg_rsender (sndF o now xs) hsr p c q2 e2 hz2 (hr.mono (by intro z hz; simp [hz])) (by show xs.length ≤ 1000000; omega)) ?_))
      rintro v L' ⟨x2, rfl, hq2, ho2, rfl⟩
      refine xo_seg [_, _] x2.l _ ?_
      refine xo_rd (rd_move rfl) rfl ?_
      refine xo_rd (rd_extract rfl rfl) rfl ?_
      refine xo_rd (rd_extract rfl rfl) rfl ?_
      refine xo_ef rfl (ef_storeB [] _ rfl rfl (by first | rfl | assumption) rfl rfl rfl ?_)
      refine xo_rd (rd_assign rfl) rfl ?_
      refine xo_nil ?_
      rotate_left
      refine xc_skip ?_
      rotate_left
    · refine xq_sb (M := (r10, .cells x2.enc.toArray 115 (0, 0)) :: (r4, .cells o.enc.toArray 67 (0, 0)) :: (x2.l ++ L)) (by first | exact Sb.refl | exact Sb.nil | (repeat (first | exact Sb.nil | exact Sb.refl | exact Sb.app0 | apply Sb.keep | apply Sb.keepApp | apply Sb.cons | apply Sb.app))) (xq_joined (x2, e2) ⟨by rw [hcA, if_pos (by omega), hq2], ho2⟩ rfl (by repeat (first | exact keep_nil | refine keep_cons rfl ?_)))
    · refine xq_sb (M := (r10, .cells x1.enc.toArray 115 (0, 0)) :: (r4, .cells o.enc.toArray 67 (0, 0)) :: (x1.l ++ L)) (by first | exact Sb.refl | exact Sb.nil | (repeat (first | exact Sb.nil | exact Sb.refl | exact Sb.app0 | apply Sb.keep | apply Sb.keepApp | apply Sb.cons | apply Sb.app))) (xq_joined (x1, e1) ⟨by rw [hcA, if_neg (by omega), hq1], ho1⟩ rfl (by repeat (first | exact keep_nil | refine keep_cons rfl ?_)))
  rintro ⟨x, e⟩ ⟨hA, hox⟩
  have hxg : x.q.Rg := by have h1 := congrArg Prod.fst hA; dsimp only at h1; rw [← h1]; exact cmpA_rg ho hn hg
  have hxm : x.q.bd.length ≤ 1000000 := by have h1 := congrArg Prod.fst hA; dsimp only at h1; rw [← h1]; have := cmpA_len o now xs; omega
  dsimp only at hA hox ⊢
  focus
    refine xc_seq ?_
    refine xc_region ?_
    refine xo_rd (rd_fieldAddr rfl) rfl ?_
    refine xo_rd (rd_load1 rfl (Cl.o1 rfl)) rfl ?_
    refine xo_rd (rd_move rfl) rfl ?_
    refine xo_rd (rd_build rfl rfl rfl) rfl ?_
  refine xo_ef rfl (ef_sliceA (vs := (Ck.mk o.ss nm).enc) rfl rfl (by show (2 : Nat) ≠ 0; decide) (by show (2 : Nat) ≤ 1000; decide) fun r39 => ?_)
  focus
    refine xo_ef rfl (ef_call rfl (XF.mono (xg_rchunks (some ⟨r39, 0, none⟩) 1 1 [⟨o.ss, nm⟩] q3 e3 hz3 rfl (Rs.fresh (vs := (Ck.mk o.ss nm).enc) (List.Mem.head _)) (fun x h => by rw [List.mem_singleton.1 h]; exact ho.ss) (by decide)) ?_))
    rintro v L' ⟨y, rfl, hq3, ho3, rfl⟩
    refine xo_seg [_, _, _] y.l _ ?_
    refine xo_rd (rd_move rfl) rfl ?_
    refine xo_rd (rd_extract rfl rfl) rfl ?_
    refine xo_rd (rd_extract rfl rfl) rfl ?_
    refine xo_ef rfl (ef_alloc fun r12 => ?_)
    refine xo_ef rfl (ef_storeB [] _ rfl rfl (by first | rfl | assumption) rfl rfl rfl ?_)
    refine xo_rd (rd_assign rfl) rfl ?_
    refine xo_nil ?_
    refine xq_seq ?_
  have hyg : y.q.Rg := by rw [hq3]; have := putCh_rg (xs := [⟨o.ss, nm⟩]) (fun x h => by rw [List.mem_singleton.1 h]; exact ho.ss); rw [hz3] at this; exact this
  have hym : y.q.bd.length ≤ 1000000 := by rw [hq3]; have := putCh_len [⟨o.ss, nm⟩]; rw [hz3] at this; dsimp only [List.length] at this; omega
  obtain ⟨⟨out, eo⟩, hz4⟩ : ∃ z, joinL ([x, y].map Pb.q) = z := ⟨_, rfl⟩
  have hF : cmpF o now nm xs = if e ≠ 0 ∨ e3 ≠ 0 then ([], 2) else (out, eo) := by
    unfold cmpF; rw [hA, hz3']; dsimp only; rw [← hz4, ← hq3]; rfl
  focus
    refine xc_seq ?_
    refine xc_seq ?_
    refine xc_region ?_
    refine xo_rd (rd_move rfl) rfl ?_
    refine xo_rd (rd_neq rfl rfl) rfl ?_
    refine xo_rd (rd_move rfl) rfl ?_
    refine xo_ndec 44 rfl (fun he1 => ?_) (fun he1 => ?_)
    refine xo_gskip rfl rfl rfl rfl ?_
    refine xo_gskip rfl rfl rfl rfl ?_
    refine xo_rd (rd_pickt rfl rfl) rfl ?_
    refine xo_nil ?_
    refine xq_seq ?_
    refine xc_condt rfl ?_
    refine xc_seq ?_
    refine xc_region ?_
    refine xo_rd (rd_assign rfl) rfl ?_
    refine xo_rd (rd_assign rfl) rfl ?_
    refine xo_nil ?_
    refine xq_seq ?_
    refine xc_ret ?_
    refine xq_then_ret ?_
    rotate_left
    refine xo_grd rfl rfl (rd_move rfl) rfl ?_
    refine xo_grd rfl rfl (rd_neq rfl rfl) rfl ?_
    refine xo_rd (rd_pickf rfl rfl) rfl ?_
    refine xo_nil ?_
    refine xq_seq ?_
    refine xc_ndec rfl (fun he2 => ?_) (fun he2 => ?_)
    refine xc_seq ?_
    refine xc_region ?_
    refine xo_rd (rd_assign rfl) rfl ?_
    refine xo_rd (rd_assign rfl) rfl ?_
    refine xo_nil ?_
    refine xq_seq ?_
    refine xc_ret ?_
    refine xq_then_ret ?_
    rotate_left
    refine xc_skip ?_
    refine xq_seq ?_
    refine xc_seq ?_
    refine xc_region ?_
    refine xo_rd (rd_loadB rfl Kn.o2 (by rfl)) rfl ?_
    refine xo_rd (rd_loadB rfl Kn.o0 (by rfl)) rfl ?_
    rotate_left
  · refine xq_sb (M := L) (by first | exact Sb.refl | exact Sb.nil | (repeat (first | exact Sb.nil | exact Sb.refl | exact Sb.app0 | apply Sb.keep | apply Sb.keepApp | apply Sb.cons | apply Sb.app))) (xq_ret2 (.inl rfl) Try.results32 rfl rfl ?_)
    rw [hF, if_pos (by omega)]; exact JnM.err 2
  · refine xq_sb (M := L) (by first | exact Sb.refl | exact Sb.nil | (repeat (first | exact Sb.nil | exact Sb.refl | exact Sb.app0 | apply Sb.keep | apply Sb.keepApp | apply Sb.cons | apply Sb.app))) (xq_ret2 (.inl rfl) Try.results32 rfl rfl ?_)
    rw [hF, if_pos (by omega)]; exact JnM.err 2
  · refine xo_ef rfl (ef_buildL (T := 125) (len := 2) (s := 4) (cells := ([x, y].flatMap Pb.enc).toArray) rfl (by decide) (by decide) (by kernel_rfl) fun r51 => ?_)
    have hx1 : ∀ L', (∀ z, z ∈ x.l → z ∈ L') → Rs W L' x.p (ints .u8 x.q.bd) := fun L' h => SlO.rs hox h
    have hy1 : ∀ L', (∀ z, z ∈ y.l → z ∈ L') → Rs W L' y.p (ints .u8 y.q.bd) := fun L' h => SlO.rs ho3 h
    focus
      refine xo_ef rfl (ef_call rfl (XF.mono (xf_rjoin2 (some ⟨r51, 0, none⟩) 2 2 [x, y] out eo hz4 rfl ⟨Rs.fresh (List.Mem.head _), (fun z h => by simp only [List.mem_cons, List.not_mem_nil, or_false] at h; rcases h with rfl | rfl; exact hx1 _ (by intro z hz; simp [hz]); exact hy1 _ (by intro z hz; simp [hz])), (fun z h => by simp only [List.mem_cons, List.not_mem_nil, or_false] at h; rcases h with rfl | rfl; exact hxg; exact hyg), (fun z h => by simp only [List.mem_cons, List.not_mem_nil, or_false] at h; rcases h with rfl | rfl; exact hxm; exact hym)⟩ (by decide)) ?_))
      rintro v L' ⟨s5, k5, l5, rfl, hO5, rfl⟩
      refine xo_rd (rd_extract rfl rfl) rfl ?_
      refine xo_rd (rd_extract rfl rfl) rfl ?_
      refine xo_rd (rd_assign rfl) rfl ?_
      refine xo_rd (rd_assign rfl) rfl ?_
      refine xo_nil ?_
      refine xq_seq ?_
      refine xc_ret ?_
    refine xq_sb (M := l5 ++ L) (by first | exact Sb.refl | exact Sb.nil | (repeat (first | exact Sb.nil | exact Sb.refl | exact Sb.app0 | apply Sb.keep | apply Sb.keepApp | apply Sb.cons | apply Sb.app))) (xq_ret2 (.inl rfl) Try.results32 rfl rfl ?_)
    rw [hF, if_neg (by omega)]
    exact ⟨s5, k5, l5, rfl, hO5, rfl⟩
end
end Go.Proofs.Ytogilblilljpmaa.X
/-
  Words of my own for walks: an append to a slice without room, wherever it lies; a text from a place on. No condition; generic over the program.
-/
namespace Go.Proofs.Ytogilblilljpmaa.X
open Go Go.RowKit
set_option linter.unusedVariables false
set_option linter.unusedSimpArgs false
section
variable {P : Program} {W : World} {n : Nat} {L : List Blk} {E : List (Nat × Value)} {d : Option Nat} {t : TypeId} {pos : String} {after : Array Edge} {g : Option (Nat × Bool)} {K : Value → List Blk → Prop}
theorem ef_appendFull {T e s bt : Nat} {z : Value} {x y : Operand} {b o m k c : Nat} {p : Option Addr} {xs news : List Value} [hT : Sl P T e] [hI : Inf P e z s bt]
    (hx : ev E x = some (.slice (some ⟨b, o, none⟩) m m)) (hy : ev E y = some (.slice p k c)) (hold : Rs W L (some ⟨b, o, none⟩) xs) (hxl : xs.length = m * s) (hsrc : Rs W L p news) (hk : news.length = k * s) (h1a : news.all (·.oneCell') = true) (hs : 0 < s) (hk0 : 0 < k)
    (hfit : (m + k) * bt ≤ 140737488355328) (hsm : m + k ≤ 9223372036854775807) (hK : ∀ q c' l', SlO s e (.slice q (m + k) c') (m + k) (xs ++ news) l' → m + k ≤ c' → K (.slice q (m + k) c') (l' ++ L)) :
    EF P W n L E ⟨d, .call ⟨.builtin .append, #[x, y], #[T, T]⟩, t, pos, after, g⟩ K := by
  refine ⟨fun a w ha hw => ?_⟩
  have hrun : (execOp a.eval ⟨d, .call ⟨.builtin .append, #[x, y], #[T, T]⟩, t, pos, after, g⟩).run P w = ((Builtin.append_ #[T, T] t #[.slice (some ⟨b, o, none⟩) m m, .slice p k c]).run P w).andThen fun v w => .ok (.value v) w := by
    simp [execOp, resolve, invoke, builtin, ha.eval hx, ha.eval hy]
  rw [hrun]
  obtain ⟨i, hi1, hi2, hi3, hi4, hzz⟩ := hI.h
  subst hi3; subst hi4
  have hpos : 0 < news.length := by rw [hk]; exact Nat.mul_pos hk0 hs
  obtain ⟨b0, o0, hp, _⟩ := hsrc 0 _ (List.getElem?_eq_getElem hpos)
  subst hp
  have hnews : ∀ j u, news[j]? = some u → w.cell? ((⟨b0, o0, none⟩ : Addr).add j) = some u := fun j u hj => by
    obtain ⟨b', o', hbo, hc⟩ := hsrc j u hj
    simp only [Option.some.injEq, Addr.mk.injEq] at hbo
    obtain ⟨rfl, rfl, _⟩ := hbo
    rw [add_zero']; exact hc.get hw
  have holds : ∀ j u, xs[j]? = some u → w.cell? ((⟨b, o, none⟩ : Addr).add j) = some u := fun j u hj => by
    obtain ⟨b', o', hbo, hc⟩ := hold j u hj
    simp only [Option.some.injEq, Addr.mk.injEq] at hbo
    obtain ⟨rfl, rfl, _⟩ := hbo
    rw [add_zero']; exact hc.get hw
  have hr := run_append_grow (P := P) w T t e i z hT.h hi1 hi2 ⟨b, o, none⟩ m m xs hxl holds ⟨b0, o0, none⟩ k c news hk hnews (by omega) (by omega) (growslice_fits (by omega) hfit)
  rw [hr]
  have hge := grownCap_ge w (m + k) m e
  refine ⟨_, hw.drew.alloc _, hK _ _ [(w.heap.size, .cells (xs.toArray ++ news.toArray ++ Builtin.zeroCells z.cells (grownCap w (m + k) m e - (m + k))) e (0, 0))] (.inr ⟨w.heap.size, _, grownCap w (m + k) m e, rfl, rfl, by omega, ?_, ?_⟩) (by omega)⟩
  · simp only [Array.size_append, List.size_toArray, size_zeroCells, hk, hxl]
    rw [hzz, ← Nat.add_mul, ← Nat.add_mul]
    congr 1
    omega
  · have : (m + k) * i.size = (xs ++ news).length := by rw [List.length_append, hxl, hk, Nat.add_mul]
    rw [this]
    simp only [Array.toList_append, List.append_assoc]
    rw [← List.append_assoc]
    exact List.take_left
theorem rd_sl3Hi {T e m b o len cap : Nat} {x hi mx : Operand} {k' k'' : IntKind} {j q : Int} [hT : Sl P T e] [hS : Ts P e m] (hx : ev E x = some (.slice (some ⟨b, o, none⟩) len cap)) (hh : ev E hi = some (.int k' j)) (hm : ev E mx = some (.int k'' q))
    (h0 : 0 ≤ j) (h2 : j ≤ q) (h3 : q ≤ cap) :
    RD P W n L E ⟨d, .slice T x none (some hi) (some mx), t, pos, after, g⟩ (.slice (some ⟨b, o, none⟩) j.toNat q.toNat) := .mk fun a w ha hw => by
  have hB := hS.h w
  have e2 : 0 ≤ q := by omega
  have e3 : j ≤ (q.toNat : Int) := by omega
  have e5 : j ≤ max q 0 := by omega
  simp [execOp, ha.eval hx, ha.eval hh, ha.eval hm, Instr.sliceAt, Instr.slice, Instr.sliceBounds, Instr.sliceBound, run_underlying hT.h, asIntOf, hB, h0, h2, h3, e2, e3, e5, add_zero']
/-- A text from a place on. -/
theorem rd_strLo {T : Nat} {x lo : Operand} {k : IntKind} {i : Int} {s : ByteArray} [hT : St P T] (hx : ev E x = some (.string s)) (hl : ev E lo = some (.int k i)) (h0 : 0 ≤ i) (h1 : i ≤ s.size) :
    RD P W n L E ⟨d, .slice T x (some lo) none none, t, pos, after, g⟩ (.string (s.extract i.toNat s.size)) := .mk fun a w ha hw => by
  simp [execOp, ha.eval hx, ha.eval hl, Instr.sliceAt, Instr.slice, Instr.sliceBounds, Instr.sliceBound, run_underlying hT.h, asIntOf, h0, h1]
end
/-! ### several that come up together, guarded or not -/
section
variable {P : Program} {W : World} {n : Nat} {ops : Array Oper} {Q : Exit → Act → World → Prop} {M L : List Blk} {E : List (Nat × Value)} {pm tm : List Nat} {fuel m : Nat}
structure XMS (P : Program) (W : World) (n : Nat) (ops : Array Oper) (Q : Exit → Act → World → Prop) (M : List Blk) (pm tm : List Nat) (fuel m : Nat) (L : List Blk) (E : List (Nat × Value)) (i : Nat) : Prop where
  run : pmOf ops = pm → tmOf ops = tm → Region.noSelect ops = true → ∀ listed, Rep ops.size listed m → ∀ a w, Env n a E → Hp W w L →
    wpOp P ops (NoPanic Q) i (fun a' w' => Hp W w' M ∧ wpAnyH P .any ops (NoPanic Q) (fun w => Hp W w M) fuel (listed.setIfInBounds i true) a' w') a w
theorem xms_ef (i : Nat) {m' : Nat} {d : Option Nat} {op : Op} {t : TypeId} {pos : String} {after : Array Edge} (hi : ops[i]? = some ⟨d, op, t, pos, after, none⟩) (hd : okd n d = true) (hm : m ||| (1 <<< i) = m')
    (hv : EF P W n L E ⟨d, op, t, pos, after, none⟩ (fun v L' => Sb M L' ∧ XM P W n ops Q M pm tm fuel m' L' (pt E d v))) : XMS P W n ops Q M pm tm fuel m L E i := ⟨fun h1 h2 h3 listed hrp a w ha hw => xm_step h1 h2 h3 hi hd hm hrp hv ha hw⟩
theorem xms_gef (i : Nat) {m' : Nat} {d : Option Nat} {op : Op} {t : TypeId} {pos : String} {after : Array Edge} {g gt : Nat} {b : Bool} (hi : ops[i]? = some ⟨d, op, t, pos, after, some (g, b)⟩) (hd : okd n d = true) (hg : (ops[g]?).bind (·.dst) = some gt) (ht : lk E gt = some (.bool b)) (hm : m ||| (1 <<< i) = m')
    (hv : EF P W n L E ⟨d, op, t, pos, after, some (g, b)⟩ (fun v L' => Sb M L' ∧ XM P W n ops Q M pm tm fuel m' L' (pt E d v))) : XMS P W n ops Q M pm tm fuel m L E i := ⟨fun h1 h2 h3 listed hrp a w ha hw => by
  unfold wpOp
  simp only [hi, Region.wanted, yielded_of (ops := ops) ha hg ht, beq_self_eq_true, if_true]
  refine .inl ?_
  unfold Oper.wp
  exact effUp.upon (hv.run a w ha hw) fun v w' ⟨L', h5, h6, h7⟩ => ⟨h6.hp h5, h7.run h1 h2 h3 _ (hm ▸ hrp.set (Array.getElem?_eq_some_iff.1 hi).1) _ _ (ha.pt d v hd) h5⟩⟩
theorem xm_l2 (i k : Nat) (hr : readyM pm.zipIdx m = [i, k]) (s1 : XMS P W n ops Q M pm tm fuel m L E i) (s2 : XMS P W n ops Q M pm tm fuel m L E k) : XM P W n ops Q M pm tm (fuel + 1) m L E := .mk fun h1 h2 h3 listed hrp a w ha hw => by
  have hmem : ∀ j, j ∈ Region.ready .any ops listed ↔ j = i ∨ j = k := fun j => by
    rw [ready_readyM hrp, h1, hr]; simp
  refine ⟨fun h => ?_, fun j hj => ?_⟩
  · have := (hmem i).2 (.inl rfl)
    rw [h] at this; cases this
  · rcases (hmem j).1 hj with rfl | rfl
    · exact s1.run h1 h2 h3 listed hrp a w ha hw
    · exact s2.run h1 h2 h3 listed hrp a w ha hw
theorem xm_l3 (i k l : Nat) (hr : readyM pm.zipIdx m = [i, k, l]) (s1 : XMS P W n ops Q M pm tm fuel m L E i) (s2 : XMS P W n ops Q M pm tm fuel m L E k) (s3 : XMS P W n ops Q M pm tm fuel m L E l) : XM P W n ops Q M pm tm (fuel + 1) m L E := .mk fun h1 h2 h3 listed hrp a w ha hw => by
  have hmem : ∀ j, j ∈ Region.ready .any ops listed ↔ j = i ∨ j = k ∨ j = l := fun j => by
    rw [ready_readyM hrp, h1, hr]; simp
  refine ⟨fun h => ?_, fun j hj => ?_⟩
  · have := (hmem i).2 (.inl rfl)
    rw [h] at this; cases this
  · rcases (hmem j).1 hj with rfl | rfl | rfl
    · exact s1.run h1 h2 h3 listed hrp a w ha hw
    · exact s2.run h1 h2 h3 listed hrp a w ha hw
    · exact s3.run h1 h2 h3 listed hrp a w ha hw
end
end Go.Proofs.Ytogilblilljpmaa.X
/-
  ReportNone: an outlet, and a remote, that are not there: a walk of my own.
-/
namespace Go.Proofs.Ytogilblilljpmaa.X
open Go Go.RowKit
set_option linter.unusedVariables false
set_option linter.unusedSimpArgs false
theorem eqs30 (x y : Bk) (w : World) : (Op.equalIn 10000 30 (.agg x.enc.toArray) (.agg y.enc.toArray)).run Try.prog w = .ok (decide (x = y)) w := by
  have hS : Try.prog.underlying 30 = some (.struct (Try.prog.fieldsOf 30)) := by kernel_rfl
  have hp : Try.prog.stoodInHeld 30 = false := by kernel_rfl
  rw [show (10000 : Nat) = 9999 + 1 from rfl, run_equalIn_agg w 9999 30 _ _ hS hp]
  simp only [Program.fieldsOf, Try.underlying30, Bk.enc]
  go_simp
  by_cases h : x = y
  · subst h; simp
  · have hf : x.ss = y.ss → x.lo = y.lo → x.to = y.to → x.hi = y.hi → x.ji = y.ji → x.ls = y.ls → x.dl ≠ y.dl := fun h0 h1 h2 h3 h4 h5 h6 => h (by cases x; cases y; simp_all)
    rw [decide_eq_false h]
    (repeat' split) <;> first | rfl | (exfalso; apply hf <;> assumption)
theorem eqS30 (x y : Bk) (o1 o2 : Operand) (w : World) : ((do eqGuard .eql 30 o1 o2 (.agg x.enc.toArray) (.agg y.enc.toArray); binOp .eql 30 (.agg x.enc.toArray) (.agg y.enc.toArray)) : Sem Value).run Try.prog w = .ok (.bool (decide (x = y))) w := by
  rw [Sem.run_bind, run_eqGuard_agg _ _ _ _ _ _ _ Try.eqGuardType30, Result.andThen_ok, run_eql_struct, eqs30]
  rfl
theorem rd_eq30 {W : World} {n : Nat} {L : List Blk} {E : List (Nat × Value)} {d : Option Nat} {t : TypeId} {pos : String} {after : Array Edge} {g : Option (Nat × Bool)} {T' : Nat} {o1 o2 : Operand} {x : Bk} (hx : ev E o1 = some (.agg x.enc.toArray)) (hy : ev E o2 = some (.agg x.enc.toArray)) :
    RD Try.prog W n L E ⟨d, .binOp .eql 30 o1 o2 T', t, pos, after, g⟩ (.bool true) := rd_cast (rd_bin hx hy (eqS30 x x o1 o2)) (by rw [decide_eq_true rfl])
def JbM (L : List Blk) (out : List Int) (e : Int) (v : Value) (L' : List Blk) : Prop :=
  ∃ s k l, v = .tuple #[.slice s out.length k, .int .i64 e] ∧ SlO 1 5 (.slice s out.length k) out.length (ints .u8 out) l ∧ L' = l ++ L
theorem cmpF_len {o : Oo} {now : Int} {nm : ByteArray} {xs : List Bk} (ho : o.Rg) (hn : U8 now) (hx : ∀ x, x ∈ xs → x.Rg) (hl : xs.length ≤ 1000) : (cmpF o now nm xs).1.length ≤ 1000000 := by
  have h1 := cmpA_rg ho hn hx
  have h2 := putCh_rg (xs := [⟨o.ss, nm⟩]) (fun x h => by rw [List.mem_singleton.1 h]; exact ho.ss)
  unfold cmpF
  split
  · exact Nat.zero_le _
  · obtain ⟨⟨out, e⟩, hj⟩ : ∃ z, joinL [(cmpA o now xs).1, (putCh [⟨o.ss, nm⟩]).1] = z := ⟨_, rfl⟩
    rw [hj]
    by_cases he : e = 0
    · subst he
      obtain ⟨_, k2, _, k4⟩ := joinL_ok hj
      rw [k4]
      have := flat_le k2 (fun q hq => by simp only [List.mem_cons, List.not_mem_nil, or_false] at hq; rcases hq with rfl | rfl; exact h1; exact h2)
      simp only [List.length] at this ⊢
      omega
    · have h3 : out = [] := by
        unfold joinL at hj
        split at hj
        · exact (Prod.mk.inj hj).1.symm
        · split at hj
          · split at hj
            · exact absurd (Prod.mk.inj hj).2.symm he
            · exact (Prod.mk.inj hj).1.symm
          · exact (Prod.mk.inj hj).1.symm
      rw [h3]; exact Nat.zero_le _
section
variable {W : World} {L : List Blk}
theorem xg_compound (b : Nat) (o : Oo) (ho : o.Rg) (nm : ByteArray) (now : Int) (hn : U8 now) (p : Option Addr) (n c : Nat) (xs : List Bk) (out : List Int) (e : Int) (hz : cmpF o now nm xs = (out, e)) (hx : xs.length = n) (hr : Rs W L p (xs.flatMap Bk.enc)) (hg : ∀ x, x ∈ xs → x.Rg) (hm : n ≤ 1000) :
    XF Try.prog W 23 #[.pointer (some ⟨b, 0, none⟩), .string nm, .int .u64 now, .slice p n c] (o.blk b :: L) (JbM (o.blk b :: L) out e) := by
  have := xf_compound b o ho nm now hn p n c xs hx hr hg hm
  rwa [hz] at this
theorem xg_compound0 (nm : ByteArray) (now : Int) (hn : U8 now) (p : Option Addr) (n c : Nat) (xs : List Bk) (out : List Int) (e : Int) (hz : cmpF (Oo.new 0) now nm xs = (out, e)) (hx : xs.length = n) (hr : Rs W L p (xs.flatMap Bk.enc)) (hg : ∀ x, x ∈ xs → x.Rg) (hm : n ≤ 1000) :
    XF Try.prog W 23 #[.pointer none, .string nm, .int .u64 now, .slice p n c] L (JbM L out e) := by
  have := xf_compound0 nm now hn p n c xs hx hr hg hm
  rwa [hz] at this
theorem xg_rcompound (o : Oo) (ho : o.Rg) (nm : ByteArray) (now : Int) (hn : U8 now) (p : Option Addr) (n c : Nat) (xs : List Bk) (out : List Int) (e : Int) (hz : cmpF o now nm xs = (out, e)) (hx : xs.length = n) (hr : Rs W L p (xs.flatMap Bk.enc)) (hg : ∀ x, x ∈ xs → x.Rg) (hm : n ≤ 1000) :
    XF Try.prog W 32 #[.agg o.enc.toArray, .string nm, .int .u64 now, .slice p n c] L (JbM L out e) := by
  have := xf_rcompound o ho nm now hn p n c xs hx hr hg hm
  rwa [hz] at this
theorem rs1 {W : World} {L : List Blk} {r T : Nat} {x : Bk} (h : (r, .cells x.enc.toArray T (0, 0)) ∈ L) : Rs W L (some ⟨r, 0, none⟩) ([x].flatMap Bk.enc) := Rs.fresh (vs := x.enc) h
set_option maxHeartbeats 4000000 in
theorem xf_ReportNone (x : Bk) (hx : x.Rg) (now : Int) (hn : U8 now) : XF Try.prog W 5 #[.agg x.enc.toArray, .int .u64 now] L (fun v L' => v = .bool true ∧ L' = L) := by
  obtain ⟨⟨out, e⟩, hz⟩ : ∃ z, cmpF (Oo.new 0) now ⟨#[97]⟩ [x] = z := ⟨_, rfl⟩
  have hol : out.length ≤ 1000000000 := by have := cmpF_len (o := Oo.new 0) (now := now) (nm := ⟨#[97]⟩) (xs := [x]) (Oo.new_rg u4_0) hn (fun z h => by rw [List.mem_singleton.1 h]; exact hx) (by show (1 : Nat) ≤ 1000; decide); rw [hz] at this; dsimp only at this; omega
  have hx1 : ∀ z, z ∈ [x] → z.Rg := fun z h => by rw [List.mem_singleton.1 h]; exact hx
  refine xf_enter (args := [.agg x.enc.toArray, .int .u64 now]) Try.func5 rfl Try.ntmps5 rfl ?_
  focus
    refine xc_seq ?_
    refine xc_region ?_
    refine xo_ef rfl (ef_box rfl fun r2 => ?_)
    refine xo_rd (rd_assign rfl) rfl ?_
    refine xo_nil ?_
    refine xq_seq ?_
    refine xc_seq ?_
    refine xc_region ?_
    refine xo_rd (rd_assign rfl) rfl ?_
    refine xo_nil ?_
    refine xq_seq ?_
    refine xc_seq ?_
    refine xc_region ?_
    refine xo_rd (rd_assign rfl) rfl ?_
    refine xo_nil ?_
    refine xq_seq ?_
    refine xc_seq ?_
    refine xc_region ?_
    refine xo_rd (rd_move rfl) rfl ?_
    refine xo_rd (rd_build rfl rfl rfl) rfl ?_
    refine xo_rd (rd_move rfl) rfl ?_
    refine xo_ef rfl (ef_call rfl (XF.mono (xf_sent0 _ _ _ _ _ _ _ _ _ _ _ now) ?_))
    rintro v L' ⟨rfl, rfl⟩
    refine xo_nil ?_
    refine xq_seq ?_
    refine xc_seq ?_
    refine xc_region ?_
    refine xo_rd (rd_move rfl) rfl ?_
    refine xo_rd (rd_build rfl rfl rfl) rfl ?_
    refine xo_rd (rd_move rfl) rfl ?_
    refine xo_ef rfl (ef_call rfl (XF.mono (xf_heard0 ⟨0, 5, 0, 0, 0, []⟩ (.slice none 0 0) now ⟨by decide, by decide⟩) ?_))
    rintro v L' ⟨rfl, rfl⟩
    refine xo_nil ?_
    refine xq_seq ?_
    refine xc_seq ?_
    refine xc_region ?_
    refine xo_rd (rd_move rfl) rfl ?_
    refine xo_ef rfl (ef_call rfl (XF.mono (xf_totals0) ?_))
    rintro v L' ⟨rfl, rfl⟩
    refine xo_rd (rd_move rfl) rfl ?_
    refine xo_rd (rd_extract rfl rfl) rfl ?_
    refine xo_rd (rd_extract rfl rfl) rfl ?_
    refine xo_rd (rd_assign rfl) rfl ?_
    refine xo_rd (rd_assign rfl) rfl ?_
    refine xo_nil ?_
    refine xq_seq ?_
    refine xc_seq ?_
    refine xc_region ?_
    refine xo_rd (rd_move rfl) rfl ?_
    refine xo_rd (rd_move rfl) rfl ?_
    refine xo_rd (rd_loadB rfl Kn.o0 (by rfl)) rfl ?_
  refine xo_ef rfl (ef_sliceA (vs := x.enc) rfl rfl (by show (7 : Nat) ≠ 0; decide) (by show (7 : Nat) ≤ 1000; decide) fun r30 => ?_)
  focus
    refine xo_ef rfl (ef_call rfl (XF.mono (xf_tell0 now hn (some ⟨r30, 0, none⟩) 1 1 [x] rfl (rs1 (List.Mem.head _)) (by decide)) ?_))
    rintro v L' ⟨s, k, l, rfl, hO, rfl⟩
    refine xo_seg [_, _] l _ ?_
    refine xo_ef rfl (ef_alloc fun r9 => ?_)
    refine xo_ef rfl (ef_storeB [] _ rfl rfl (by first | rfl | assumption) rfl rfl rfl ?_)
    refine xo_nil ?_
    refine xq_seq ?_
    refine xc_seq ?_
    refine xc_region ?_
    refine xo_rd (rd_move rfl) rfl ?_
    refine xo_rd (rd_move rfl) rfl ?_
    refine xo_rd (rd_loadB rfl Kn.o2 (by rfl)) rfl ?_
  refine xo_ef rfl (ef_sliceA (vs := x.enc) rfl rfl (by show (7 : Nat) ≠ 0; decide) (by show (7 : Nat) ≤ 1000; decide) fun r36 => ?_)
  focus
    refine xo_ef rfl (ef_call rfl (XF.mono (xg_compound0 ⟨#[97]⟩ now hn (some ⟨r36, 0, none⟩) 1 1 [x] out e hz rfl (rs1 (List.Mem.head _)) hx1 (by decide)) ?_))
    rintro v L' ⟨s7, k7, l7, rfl, hO7, rfl⟩
    refine xo_seg [_, _, _, _] l7 _ ?_
    refine xo_rd (rd_move rfl) rfl ?_
    refine xo_rd (rd_extract rfl rfl) rfl ?_
    refine xo_rd (rd_extract rfl rfl) rfl ?_
    refine xo_rd (rd_assign rfl) rfl ?_
    refine xo_rd (rd_assign rfl) rfl ?_
    refine xo_nil ?_
    refine xq_seq ?_
  refine xc_join (ι := Option Addr × Nat × List Blk) (fun z => SlO 1 5 (.slice z.1 out.length z.2.1) out.length (ints .u8 out) z.2.2) (fun z => z.2.2 ++ ((r9, .cells (Sn.enc ⟨0, ntpF now, 0, 0, 0, [x]⟩ (.slice s 1 k)).toArray 43 (0, 0)) :: (r2, .cells x.enc.toArray 30 (0, 0)) :: (l7 ++ (l ++ L)))) (fun z => [(1, .int .u64 now), (2, .pointer (some ⟨r2, 0, none⟩)), (5, .pointer none), (6, .pointer none), (7, .int .u64 0), (8, .int .u64 0), (9, .pointer (some ⟨r9, 0, none⟩)), (10, .slice s7 out.length k7), (11, .int .i64 e), (12, .slice z.1 out.length z.2.1), (13, .int .i64 e)]) ?_ ?_
  · skip
    focus
      refine xc_drawML [0, 0, 0, 4, 11, 16, 32, 32, 127, 511] [0, 0, 0, 4, 11, 16, 32, 32, 127, 511] (by kernel_rfl) (by kernel_rfl) (by kernel_rfl) ?_
      refine xm_take 1 (m' := 2) rfl (by kernel_rfl) (by first | exact Sb.refl | exact Sb.nil | (repeat (first | exact Sb.nil | exact Sb.refl | exact Sb.app0 | apply Sb.keep | apply Sb.keepApp | apply Sb.cons | apply Sb.app))) (rd_move rfl) rfl (by kernel_rfl) ?_
      refine xm_take 2 (m' := 6) rfl (by kernel_rfl) (by first | exact Sb.refl | exact Sb.nil | (repeat (first | exact Sb.nil | exact Sb.refl | exact Sb.app0 | apply Sb.keep | apply Sb.keepApp | apply Sb.cons | apply Sb.app))) (rd_loadB rfl Kn.o3 (by rfl)) rfl (by kernel_rfl) ?_
      refine xm_two 0 3 (mi := 7) (mk := 14) rfl rfl (by kernel_rfl) rfl rfl (by kernel_rfl) (by kernel_rfl) (ef_call rfl (XF.mono (xf_newOutlet 0) ?_)) (ef_sliceA (vs := x.enc) rfl rfl (by show (7 : Nat) ≠ 0; decide) (by show (7 : Nat) ≤ 1000; decide) fun r44 => ⟨(by first | exact Sb.refl | exact Sb.nil | (repeat (first | exact Sb.nil | exact Sb.refl | exact Sb.app0 | apply Sb.keep | apply Sb.keepApp | apply Sb.cons | apply Sb.app))), ?_⟩)
      rotate_left
      rotate_right
      rintro v L' ⟨b8, rfl, rfl⟩
      refine ⟨(by first | exact Sb.refl | exact Sb.nil | (repeat (first | exact Sb.nil | exact Sb.refl | exact Sb.app0 | apply Sb.keep | apply Sb.keepApp | apply Sb.cons | apply Sb.app))), ?_⟩
      refine xm_one 3 (m' := 15) rfl (by kernel_rfl) rfl (by kernel_rfl) (ef_sliceA (vs := x.enc) rfl rfl (by show (7 : Nat) ≠ 0; decide) (by show (7 : Nat) ≤ 1000; decide) fun r44 => ?_)
      refine ⟨(by first | exact Sb.refl | exact Sb.nil | (repeat (first | exact Sb.nil | exact Sb.refl | exact Sb.app0 | apply Sb.keep | apply Sb.keepApp | apply Sb.cons | apply Sb.app))), ?_⟩
      rotate_left
      refine xm_one 0 (m' := 15) rfl (by kernel_rfl) rfl (by kernel_rfl) (ef_call rfl (XF.mono (xf_newOutlet 0) ?_))
      rintro v L' ⟨b8, rfl, rfl⟩
      refine ⟨(by first | exact Sb.refl | exact Sb.nil | (repeat (first | exact Sb.nil | exact Sb.refl | exact Sb.app0 | apply Sb.keep | apply Sb.keepApp | apply Sb.cons | apply Sb.app))), ?_⟩
      refine xm_one 4 (m' := 31) rfl (by kernel_rfl) rfl (by kernel_rfl) (ef_call rfl (XF.mono (xg_compound b8 (Oo.new 0) (Oo.new_rg u4_0) ⟨#[97]⟩ now hn (some ⟨r44, 0, none⟩) 1 1 [x] out e hz rfl (rs1 (T := 30) (by simp)) hx1 (by decide)) ?_))
      rintro v L' ⟨s8, k8, l8, rfl, hO8, rfl⟩
      refine ⟨(by first | exact Sb.refl | exact Sb.nil | (repeat (first | exact Sb.nil | exact Sb.refl | exact Sb.app0 | apply Sb.keep | apply Sb.keepApp | apply Sb.cons | apply Sb.app))), ?_⟩
      refine xm_take 5 (m' := 63) rfl (by kernel_rfl) (by first | exact Sb.refl | exact Sb.nil | (repeat (first | exact Sb.nil | exact Sb.refl | exact Sb.app0 | apply Sb.keep | apply Sb.keepApp | apply Sb.cons | apply Sb.app))) (rd_move rfl) rfl (by kernel_rfl) ?_
      refine xm_take 6 (m' := 127) rfl (by kernel_rfl) (by first | exact Sb.refl | exact Sb.nil | (repeat (first | exact Sb.nil | exact Sb.refl | exact Sb.app0 | apply Sb.keep | apply Sb.keepApp | apply Sb.cons | apply Sb.app))) (rd_extract rfl rfl) rfl (by kernel_rfl) ?_
      refine xm_take 7 (m' := 255) rfl (by kernel_rfl) (by first | exact Sb.refl | exact Sb.nil | (repeat (first | exact Sb.nil | exact Sb.refl | exact Sb.app0 | apply Sb.keep | apply Sb.keepApp | apply Sb.cons | apply Sb.app))) (rd_extract rfl rfl) rfl (by kernel_rfl) ?_
      refine xm_take 8 (m' := 511) rfl (by kernel_rfl) (by first | exact Sb.refl | exact Sb.nil | (repeat (first | exact Sb.nil | exact Sb.refl | exact Sb.app0 | apply Sb.keep | apply Sb.keepApp | apply Sb.cons | apply Sb.app))) (rd_assign rfl) rfl (by kernel_rfl) ?_
      refine xm_take 9 (m' := 1023) rfl (by kernel_rfl) (by first | exact Sb.refl | exact Sb.nil | (repeat (first | exact Sb.nil | exact Sb.refl | exact Sb.app0 | apply Sb.keep | apply Sb.keepApp | apply Sb.cons | apply Sb.app))) (rd_assign rfl) rfl (by kernel_rfl) ?_
      refine xm_done (by kernel_rfl) ?_
      rotate_left
    · refine xm_one 4 (m' := 31) rfl (by kernel_rfl) rfl (by kernel_rfl) (ef_call rfl (XF.mono (XF.mid [_] (xg_compound b8 (Oo.new 0) (Oo.new_rg u4_0) ⟨#[97]⟩ now hn (some ⟨r44, 0, none⟩) 1 1 [x] out e hz rfl (rs1 (T := 30) (by simp)) hx1 (by decide))) ?_))
      rintro v L' ⟨s8, k8, l8, rfl, hO8, rfl⟩
      refine ⟨(by first | exact Sb.refl | exact Sb.nil | (repeat (first | exact Sb.nil | exact Sb.refl | exact Sb.app0 | apply Sb.keep | apply Sb.keepApp | apply Sb.cons | apply Sb.app))), ?_⟩
      focus
        refine xm_take 5 (m' := 63) rfl (by kernel_rfl) (by first | exact Sb.refl | exact Sb.nil | (repeat (first | exact Sb.nil | exact Sb.refl | exact Sb.app0 | apply Sb.keep | apply Sb.keepApp | apply Sb.cons | apply Sb.app))) (rd_move rfl) rfl (by kernel_rfl) ?_
        refine xm_take 6 (m' := 127) rfl (by kernel_rfl) (by first | exact Sb.refl | exact Sb.nil | (repeat (first | exact Sb.nil | exact Sb.refl | exact Sb.app0 | apply Sb.keep | apply Sb.keepApp | apply Sb.cons | apply Sb.app))) (rd_extract rfl rfl) rfl (by kernel_rfl) ?_
        refine xm_take 7 (m' := 255) rfl (by kernel_rfl) (by first | exact Sb.refl | exact Sb.nil | (repeat (first | exact Sb.nil | exact Sb.refl | exact Sb.app0 | apply Sb.keep | apply Sb.keepApp | apply Sb.cons | apply Sb.app))) (rd_extract rfl rfl) rfl (by kernel_rfl) ?_
        refine xm_take 8 (m' := 511) rfl (by kernel_rfl) (by first | exact Sb.refl | exact Sb.nil | (repeat (first | exact Sb.nil | exact Sb.refl | exact Sb.app0 | apply Sb.keep | apply Sb.keepApp | apply Sb.cons | apply Sb.app))) (rd_assign rfl) rfl (by kernel_rfl) ?_
        refine xm_take 9 (m' := 1023) rfl (by kernel_rfl) (by first | exact Sb.refl | exact Sb.nil | (repeat (first | exact Sb.nil | exact Sb.refl | exact Sb.app0 | apply Sb.keep | apply Sb.keepApp | apply Sb.cons | apply Sb.app))) (rd_assign rfl) rfl (by kernel_rfl) ?_
        refine xm_done (by kernel_rfl) ?_
      exact xq_sb (M := l8 ++ ((r9, .cells (Sn.enc ⟨0, ntpF now, 0, 0, 0, [x]⟩ (.slice s 1 k)).toArray 43 (0, 0)) :: (r2, .cells x.enc.toArray 30 (0, 0)) :: (l7 ++ (l ++ L)))) (by first | exact Sb.refl | exact Sb.nil | (repeat (first | exact Sb.nil | exact Sb.refl | exact Sb.app0 | apply Sb.keep | apply Sb.keepApp | apply Sb.cons | apply Sb.app))) (xq_joined (s8, k8, l8) hO8 rfl (by repeat (first | exact keep_nil | refine keep_cons rfl ?_)))
    · exact xq_sb (M := l8 ++ ((r9, .cells (Sn.enc ⟨0, ntpF now, 0, 0, 0, [x]⟩ (.slice s 1 k)).toArray 43 (0, 0)) :: (r2, .cells x.enc.toArray 30 (0, 0)) :: (l7 ++ (l ++ L)))) (by first | exact Sb.refl | exact Sb.nil | (repeat (first | exact Sb.nil | exact Sb.refl | exact Sb.app0 | apply Sb.keep | apply Sb.keepApp | apply Sb.cons | apply Sb.app))) (xq_joined (s8, k8, l8) hO8 rfl (by repeat (first | exact keep_nil | refine keep_cons rfl ?_)))
  rintro ⟨s8, k8, l8⟩ hO8
  dsimp only at hO8 ⊢
  refine xc_perm (seg_perm l8 [_, _] _) ?_
  dsimp only [List.cons_append, List.nil_append]
  focus
    refine xc_seq ?_
    refine xc_drawML [0, 1, 2, 6, 8, 24, 40, 72, 128, 384, 640, 1152, 2048, 2048, 10240, 2048, 34816, 83968, 149504, 399360, 526336, 1572864, 2097152, 2097152, 2097152, 31457280, 2097152, 102760448, 136314880, 301989888, 536870912, 536870912, 3758096384, 4831838208, 9126805504, 17179869184, 17179869184, 120259084288, 154618822656, 412316860416, 549755813888, 1649267441664, 4398046511103] [0, 1, 2, 6, 8, 24, 40, 72, 128, 384, 640, 1152, 2048, 2048, 10240, 2048, 34816, 83968, 149504, 399360, 526336, 1572864, 2097152, 2097152, 2097152, 31457280, 2097152, 102760448, 136314880, 301989888, 536870912, 536870912, 3758096384, 4831838208, 9126805504, 17179869184, 17179869184, 120259084288, 154618822656, 412316860416, 549755813888, 1649267441664, 4398046511103] (by kernel_rfl) (by kernel_rfl) (by kernel_rfl) ?_
    refine xm_take 0 (m' := 1) rfl (by kernel_rfl) (by first | exact Sb.refl | exact Sb.nil | (repeat (first | exact Sb.nil | exact Sb.refl | exact Sb.app0 | apply Sb.keep | apply Sb.keepApp | apply Sb.cons | apply Sb.app))) (rd_move rfl) rfl (by kernel_rfl) ?_
    refine xm_one 1 (m' := 3) rfl (by kernel_rfl) rfl (by kernel_rfl) (ef_call rfl (XF.mono (xf_oany0) ?_))
    rintro v L' ⟨rfl, rfl⟩
    refine ⟨(by first | exact Sb.refl | exact Sb.nil | (repeat (first | exact Sb.nil | exact Sb.refl | exact Sb.app0 | apply Sb.keep | apply Sb.keepApp | apply Sb.cons | apply Sb.app))), ?_⟩
    refine xm_take 2 (m' := 7) rfl (by kernel_rfl) (by first | exact Sb.refl | exact Sb.nil | (repeat (first | exact Sb.nil | exact Sb.refl | exact Sb.app0 | apply Sb.keep | apply Sb.keepApp | apply Sb.cons | apply Sb.app))) (rd_not rfl) rfl (by kernel_rfl) ?_
    refine xm_take 3 (m' := 15) rfl (by kernel_rfl) (by first | exact Sb.refl | exact Sb.nil | (repeat (first | exact Sb.nil | exact Sb.refl | exact Sb.app0 | apply Sb.keep | apply Sb.keepApp | apply Sb.cons | apply Sb.app))) (rd_move rfl) rfl (by kernel_rfl) ?_
    refine xm_gtake 4 (m' := 31) rfl (by kernel_rfl) (by first | exact Sb.refl | exact Sb.nil | (repeat (first | exact Sb.nil | exact Sb.refl | exact Sb.app0 | apply Sb.keep | apply Sb.keepApp | apply Sb.cons | apply Sb.app))) rfl rfl (rd_move rfl) rfl (by kernel_rfl) ?_
    refine xm_gtake 5 (m' := 63) rfl (by kernel_rfl) (by first | exact Sb.refl | exact Sb.nil | (repeat (first | exact Sb.nil | exact Sb.refl | exact Sb.app0 | apply Sb.keep | apply Sb.keepApp | apply Sb.cons | apply Sb.app))) rfl rfl (rd_eql rfl rfl) rfl (by kernel_rfl) ?_
    refine xm_take 6 (m' := 127) rfl (by kernel_rfl) (by first | exact Sb.refl | exact Sb.nil | (repeat (first | exact Sb.nil | exact Sb.refl | exact Sb.app0 | apply Sb.keep | apply Sb.keepApp | apply Sb.cons | apply Sb.app))) (rd_pickt rfl rfl) rfl (by kernel_rfl) ?_
    refine xm_take 7 (m' := 255) rfl (by kernel_rfl) (by first | exact Sb.refl | exact Sb.nil | (repeat (first | exact Sb.nil | exact Sb.refl | exact Sb.app0 | apply Sb.keep | apply Sb.keepApp | apply Sb.cons | apply Sb.app))) (rd_move rfl) rfl (by kernel_rfl) ?_
    refine xm_gtake 8 (m' := 511) rfl (by kernel_rfl) (by first | exact Sb.refl | exact Sb.nil | (repeat (first | exact Sb.nil | exact Sb.refl | exact Sb.app0 | apply Sb.keep | apply Sb.keepApp | apply Sb.cons | apply Sb.app))) rfl rfl (rd_move rfl) rfl (by kernel_rfl) ?_
    refine xm_gtake 9 (m' := 1023) rfl (by kernel_rfl) (by first | exact Sb.refl | exact Sb.nil | (repeat (first | exact Sb.nil | exact Sb.refl | exact Sb.app0 | apply Sb.keep | apply Sb.keepApp | apply Sb.cons | apply Sb.app))) rfl rfl (rd_eql rfl rfl) rfl (by kernel_rfl) ?_
    refine xm_take 10 (m' := 2047) rfl (by kernel_rfl) (by first | exact Sb.refl | exact Sb.nil | (repeat (first | exact Sb.nil | exact Sb.refl | exact Sb.app0 | apply Sb.keep | apply Sb.keepApp | apply Sb.cons | apply Sb.app))) (rd_pickt rfl rfl) rfl (by kernel_rfl) ?_
    refine xm_take 11 (m' := 4095) rfl (by kernel_rfl) (by first | exact Sb.refl | exact Sb.nil | (repeat (first | exact Sb.nil | exact Sb.refl | exact Sb.app0 | apply Sb.keep | apply Sb.keepApp | apply Sb.cons | apply Sb.app))) (rd_move rfl) rfl (by kernel_rfl) ?_
    refine xm_gtake 12 (m' := 8191) rfl (by kernel_rfl) (by first | exact Sb.refl | exact Sb.nil | (repeat (first | exact Sb.nil | exact Sb.refl | exact Sb.app0 | apply Sb.keep | apply Sb.keepApp | apply Sb.cons | apply Sb.app))) rfl rfl (rd_loadB rfl Kn.o0 (by rfl)) rfl (by kernel_rfl) ?_
    refine xm_gtake 13 (m' := 16383) rfl (by kernel_rfl) (by first | exact Sb.refl | exact Sb.nil | (repeat (first | exact Sb.nil | exact Sb.refl | exact Sb.app0 | apply Sb.keep | apply Sb.keepApp | apply Sb.cons | apply Sb.app))) rfl rfl (rd_move rfl) rfl (by kernel_rfl) ?_
    refine xm_gtake 15 (m' := 49151) rfl (by kernel_rfl) (by first | exact Sb.refl | exact Sb.nil | (repeat (first | exact Sb.nil | exact Sb.refl | exact Sb.app0 | apply Sb.keep | apply Sb.keepApp | apply Sb.cons | apply Sb.app))) rfl rfl (rd_loadB rfl Kn.o1 (by rfl)) rfl (by kernel_rfl) ?_
    refine xm_l2 14 16 (by kernel_rfl) (xms_gef 14 (m' := 65535) rfl rfl rfl rfl (by kernel_rfl) (ef_call rfl (XF.mono (xf_rntp now hn) ?_))) (xms_gef 16 (m' := 114687) rfl rfl rfl rfl (by kernel_rfl) (ef_sliceA (vs := x.enc) rfl rfl (by show (7 : Nat) ≠ 0; decide) (by show (7 : Nat) ≤ 1000; decide) fun r64 => ⟨(by first | exact Sb.refl | exact Sb.nil | (repeat (first | exact Sb.nil | exact Sb.refl | exact Sb.app0 | apply Sb.keep | apply Sb.keepApp | apply Sb.cons | apply Sb.app))), ?_⟩))
    rotate_left
    rotate_right
    rintro v L' ⟨rfl, rfl⟩
    refine ⟨(by first | exact Sb.refl | exact Sb.nil | (repeat (first | exact Sb.nil | exact Sb.refl | exact Sb.app0 | apply Sb.keep | apply Sb.keepApp | apply Sb.cons | apply Sb.app))), ?_⟩
    refine xm_gone 16 (m' := 131071) rfl (by kernel_rfl) rfl rfl rfl (by kernel_rfl) (ef_sliceA (vs := x.enc) rfl rfl (by show (7 : Nat) ≠ 0; decide) (by show (7 : Nat) ≤ 1000; decide) fun r64 => ?_)
    refine ⟨(by first | exact Sb.refl | exact Sb.nil | (repeat (first | exact Sb.nil | exact Sb.refl | exact Sb.app0 | apply Sb.keep | apply Sb.keepApp | apply Sb.cons | apply Sb.app))), ?_⟩
    refine xm_gone 17 (m' := 262143) rfl (by kernel_rfl) rfl rfl rfl (by kernel_rfl) (ef_call rfl (XF.mono (xf_dBlocks (some ⟨r64, 0, none⟩) 1 1 [x] rfl (rs1 (T := 30) (by simp)) (by decide)) ?_))
    rintro v L' ⟨s9, k9, l9, rfl, hO9, rfl⟩
    refine ⟨(by first | exact Sb.refl | exact Sb.nil | (repeat (first | exact Sb.nil | exact Sb.refl | exact Sb.app0 | apply Sb.keep | apply Sb.keepApp | apply Sb.cons | apply Sb.app))), ?_⟩
    refine xm_gtake 18 (m' := 524287) rfl (by kernel_rfl) (by first | exact Sb.refl | exact Sb.nil | (repeat (first | exact Sb.nil | exact Sb.refl | exact Sb.app0 | apply Sb.keep | apply Sb.keepApp | apply Sb.cons | apply Sb.app))) rfl rfl (rd_build rfl rfl rfl) rfl (by kernel_rfl) ?_
    refine xm_gone 19 (m' := 1048575) rfl (by kernel_rfl) rfl rfl rfl (by kernel_rfl) (ef_call rfl (XF.mono (xf_sameSender ⟨0, ntpF now, 0, 0, 0, [x]⟩ s s9 k k9 (hO.rs (by intro z hz; simp [hz])) (hO9.rs (by intro z hz; simp [hz])) (by show (1 : Nat) ≤ 1000000; decide)) ?_))
    rintro v L' ⟨rfl, rfl⟩
    refine ⟨(by first | exact Sb.refl | exact Sb.nil | (repeat (first | exact Sb.nil | exact Sb.refl | exact Sb.app0 | apply Sb.keep | apply Sb.keepApp | apply Sb.cons | apply Sb.app))), ?_⟩
    refine xm_take 20 (m' := 2097151) rfl (by kernel_rfl) (by first | exact Sb.refl | exact Sb.nil | (repeat (first | exact Sb.nil | exact Sb.refl | exact Sb.app0 | apply Sb.keep | apply Sb.keepApp | apply Sb.cons | apply Sb.app))) (rd_pickt rfl rfl) rfl (by kernel_rfl) ?_
    refine xm_take 21 (m' := 4194303) rfl (by kernel_rfl) (by first | exact Sb.refl | exact Sb.nil | (repeat (first | exact Sb.nil | exact Sb.refl | exact Sb.app0 | apply Sb.keep | apply Sb.keepApp | apply Sb.cons | apply Sb.app))) (rd_move rfl) rfl (by kernel_rfl) ?_
    refine xm_gtake 22 (m' := 8388607) rfl (by kernel_rfl) (by first | exact Sb.refl | exact Sb.nil | (repeat (first | exact Sb.nil | exact Sb.refl | exact Sb.app0 | apply Sb.keep | apply Sb.keepApp | apply Sb.cons | apply Sb.app))) rfl rfl (rd_move rfl) rfl (by kernel_rfl) ?_
    refine xm_gtake 23 (m' := 16777215) rfl (by kernel_rfl) (by first | exact Sb.refl | exact Sb.nil | (repeat (first | exact Sb.nil | exact Sb.refl | exact Sb.app0 | apply Sb.keep | apply Sb.keepApp | apply Sb.cons | apply Sb.app))) rfl rfl (rd_loadB rfl Kn.o1 (by rfl)) rfl (by kernel_rfl) ?_
    refine xm_gtake 24 (m' := 33554431) rfl (by kernel_rfl) (by first | exact Sb.refl | exact Sb.nil | (repeat (first | exact Sb.nil | exact Sb.refl | exact Sb.app0 | apply Sb.keep | apply Sb.keepApp | apply Sb.cons | apply Sb.app))) rfl rfl (rd_move rfl) rfl (by kernel_rfl) ?_
    refine xm_gtake 26 (m' := 100663295) rfl (by kernel_rfl) (by first | exact Sb.refl | exact Sb.nil | (repeat (first | exact Sb.nil | exact Sb.refl | exact Sb.app0 | apply Sb.keep | apply Sb.keepApp | apply Sb.cons | apply Sb.app))) rfl rfl (rd_loadB rfl Kn.o1 (by rfl)) rfl (by kernel_rfl) ?_
    refine xm_gone 25 (m' := 134217727) rfl (by kernel_rfl) rfl rfl rfl (by kernel_rfl) (ef_call rfl (XF.mono (xf_block0 x now) ?_))
    rintro v L' ⟨rfl, rfl⟩
    refine ⟨(by first | exact Sb.refl | exact Sb.nil | (repeat (first | exact Sb.nil | exact Sb.refl | exact Sb.app0 | apply Sb.keep | apply Sb.keepApp | apply Sb.cons | apply Sb.app))), ?_⟩
    refine xm_gtake 27 (m' := 268435455) rfl (by kernel_rfl) (by first | exact Sb.refl | exact Sb.nil | (repeat (first | exact Sb.nil | exact Sb.refl | exact Sb.app0 | apply Sb.keep | apply Sb.keepApp | apply Sb.cons | apply Sb.app))) rfl rfl (rd_eq30 rfl rfl) rfl (by kernel_rfl) ?_
    refine xm_take 28 (m' := 536870911) rfl (by kernel_rfl) (by first | exact Sb.refl | exact Sb.nil | (repeat (first | exact Sb.nil | exact Sb.refl | exact Sb.app0 | apply Sb.keep | apply Sb.keepApp | apply Sb.cons | apply Sb.app))) (rd_pickt rfl rfl) rfl (by kernel_rfl) ?_
    refine xm_take 29 (m' := 1073741823) rfl (by kernel_rfl) (by first | exact Sb.refl | exact Sb.nil | (repeat (first | exact Sb.nil | exact Sb.refl | exact Sb.app0 | apply Sb.keep | apply Sb.keepApp | apply Sb.cons | apply Sb.app))) (rd_move rfl) rfl (by kernel_rfl) ?_
    refine xm_gtake 30 (m' := 2147483647) rfl (by kernel_rfl) (by first | exact Sb.refl | exact Sb.nil | (repeat (first | exact Sb.nil | exact Sb.refl | exact Sb.app0 | apply Sb.keep | apply Sb.keepApp | apply Sb.cons | apply Sb.app))) rfl rfl (rd_move rfl) rfl (by kernel_rfl) ?_
    refine xm_gtake 31 (m' := 4294967295) rfl (by kernel_rfl) (by first | exact Sb.refl | exact Sb.nil | (repeat (first | exact Sb.nil | exact Sb.refl | exact Sb.app0 | apply Sb.keep | apply Sb.keepApp | apply Sb.cons | apply Sb.app))) rfl rfl (rd_move rfl) rfl (by kernel_rfl) ?_
    refine xm_gtake 32 (m' := 8589934591) rfl (by kernel_rfl) (by first | exact Sb.refl | exact Sb.nil | (repeat (first | exact Sb.nil | exact Sb.refl | exact Sb.app0 | apply Sb.keep | apply Sb.keepApp | apply Sb.cons | apply Sb.app))) rfl rfl (rd_eql rfl rfl) rfl (by kernel_rfl) ?_
    refine xm_take 33 (m' := 17179869183) rfl (by kernel_rfl) (by first | exact Sb.refl | exact Sb.nil | (repeat (first | exact Sb.nil | exact Sb.refl | exact Sb.app0 | apply Sb.keep | apply Sb.keepApp | apply Sb.cons | apply Sb.app))) (rd_pickt rfl rfl) rfl (by kernel_rfl) ?_
    refine xm_take 34 (m' := 34359738367) rfl (by kernel_rfl) (by first | exact Sb.refl | exact Sb.nil | (repeat (first | exact Sb.nil | exact Sb.refl | exact Sb.app0 | apply Sb.keep | apply Sb.keepApp | apply Sb.cons | apply Sb.app))) (rd_move rfl) rfl (by kernel_rfl) ?_
    refine xm_dec 82 rfl (fun _ => ?_) (fun h => absurd rfl h)
    refine xm_gtake 35 (m' := 68719476735) rfl (by kernel_rfl) (by first | exact Sb.refl | exact Sb.nil | (repeat (first | exact Sb.nil | exact Sb.refl | exact Sb.app0 | apply Sb.keep | apply Sb.keepApp | apply Sb.cons | apply Sb.app))) rfl rfl (rd_move rfl) rfl (by kernel_rfl) ?_
    refine xm_gtake 36 (m' := 137438953471) rfl (by kernel_rfl) (by first | exact Sb.refl | exact Sb.nil | (repeat (first | exact Sb.nil | exact Sb.refl | exact Sb.app0 | apply Sb.keep | apply Sb.keepApp | apply Sb.cons | apply Sb.app))) rfl rfl (rd_move rfl) rfl (by kernel_rfl) ?_
    refine xm_gone 37 (m' := 274877906943) rfl (by kernel_rfl) rfl rfl rfl (by kernel_rfl) (ef_call rfl (XF.mono (xf_samebytesT s7 s8 out.length out.length k7 k8 out out rfl rfl rfl (hO7.rs (by intro z hz; simp [hz])) (hO8.rs (by intro z hz; simp [hz])) hol) ?_))
    rintro v L' ⟨rfl, rfl⟩
    refine ⟨(by first | exact Sb.refl | exact Sb.nil | (repeat (first | exact Sb.nil | exact Sb.refl | exact Sb.app0 | apply Sb.keep | apply Sb.keepApp | apply Sb.cons | apply Sb.app))), ?_⟩
    refine xm_take 38 (m' := 549755813887) rfl (by kernel_rfl) (by first | exact Sb.refl | exact Sb.nil | (repeat (first | exact Sb.nil | exact Sb.refl | exact Sb.app0 | apply Sb.keep | apply Sb.keepApp | apply Sb.cons | apply Sb.app))) (rd_pickt rfl rfl) rfl (by kernel_rfl) ?_
    refine xm_take 39 (m' := 1099511627775) rfl (by kernel_rfl) (by first | exact Sb.refl | exact Sb.nil | (repeat (first | exact Sb.nil | exact Sb.refl | exact Sb.app0 | apply Sb.keep | apply Sb.keepApp | apply Sb.cons | apply Sb.app))) (rd_move rfl) rfl (by kernel_rfl) ?_
    refine xm_gone 40 (m' := 2199023255551) rfl (by kernel_rfl) rfl rfl rfl (by kernel_rfl) (ef_call rfl (XF.mono (xf_works) ?_))
    rintro v L' ⟨rfl, rfl⟩
    refine ⟨(by first | exact Sb.refl | exact Sb.nil | (repeat (first | exact Sb.nil | exact Sb.refl | exact Sb.app0 | apply Sb.keep | apply Sb.keepApp | apply Sb.cons | apply Sb.app))), ?_⟩
    refine xm_take 41 (m' := 4398046511103) rfl (by kernel_rfl) (by first | exact Sb.refl | exact Sb.nil | (repeat (first | exact Sb.nil | exact Sb.refl | exact Sb.app0 | apply Sb.keep | apply Sb.keepApp | apply Sb.cons | apply Sb.app))) (rd_pickt rfl rfl) rfl (by kernel_rfl) ?_
    refine xm_take 42 (m' := 8796093022207) rfl (by kernel_rfl) (by first | exact Sb.refl | exact Sb.nil | (repeat (first | exact Sb.nil | exact Sb.refl | exact Sb.app0 | apply Sb.keep | apply Sb.keepApp | apply Sb.cons | apply Sb.app))) (rd_assign rfl) rfl (by kernel_rfl) ?_
    refine xm_done (by kernel_rfl) ?_
    refine xq_seq ?_
    refine xc_ret ?_
    rotate_left
    refine xm_gone 14 (m' := 131071) rfl (by kernel_rfl) rfl rfl rfl (by kernel_rfl) (ef_call rfl (XF.mono (xf_rntp now hn) ?_))
    rintro v L' ⟨rfl, rfl⟩
    refine ⟨(by first | exact Sb.refl | exact Sb.nil | (repeat (first | exact Sb.nil | exact Sb.refl | exact Sb.app0 | apply Sb.keep | apply Sb.keepApp | apply Sb.cons | apply Sb.app))), ?_⟩
    refine xm_gone 17 (m' := 262143) rfl (by kernel_rfl) rfl rfl rfl (by kernel_rfl) (ef_call rfl (XF.mono (xf_dBlocks (some ⟨r64, 0, none⟩) 1 1 [x] rfl (rs1 (T := 30) (by simp)) (by decide)) ?_))
    rintro v L' ⟨s9, k9, l9, rfl, hO9, rfl⟩
    refine ⟨(by first | exact Sb.refl | exact Sb.nil | (repeat (first | exact Sb.nil | exact Sb.refl | exact Sb.app0 | apply Sb.keep | apply Sb.keepApp | apply Sb.cons | apply Sb.app))), ?_⟩
    refine xm_gtake 18 (m' := 524287) rfl (by kernel_rfl) (by first | exact Sb.refl | exact Sb.nil | (repeat (first | exact Sb.nil | exact Sb.refl | exact Sb.app0 | apply Sb.keep | apply Sb.keepApp | apply Sb.cons | apply Sb.app))) rfl rfl (rd_build rfl rfl rfl) rfl (by kernel_rfl) ?_
    refine xm_gone 19 (m' := 1048575) rfl (by kernel_rfl) rfl rfl rfl (by kernel_rfl) (ef_call rfl (XF.mono (xf_sameSender ⟨0, ntpF now, 0, 0, 0, [x]⟩ s s9 k k9 (hO.rs (by intro z hz; simp [hz])) (hO9.rs (by intro z hz; simp [hz])) (by show (1 : Nat) ≤ 1000000; decide)) ?_))
    rintro v L' ⟨rfl, rfl⟩
    refine ⟨(by first | exact Sb.refl | exact Sb.nil | (repeat (first | exact Sb.nil | exact Sb.refl | exact Sb.app0 | apply Sb.keep | apply Sb.keepApp | apply Sb.cons | apply Sb.app))), ?_⟩
    refine xm_take 20 (m' := 2097151) rfl (by kernel_rfl) (by first | exact Sb.refl | exact Sb.nil | (repeat (first | exact Sb.nil | exact Sb.refl | exact Sb.app0 | apply Sb.keep | apply Sb.keepApp | apply Sb.cons | apply Sb.app))) (rd_pickt rfl rfl) rfl (by kernel_rfl) ?_
    refine xm_take 21 (m' := 4194303) rfl (by kernel_rfl) (by first | exact Sb.refl | exact Sb.nil | (repeat (first | exact Sb.nil | exact Sb.refl | exact Sb.app0 | apply Sb.keep | apply Sb.keepApp | apply Sb.cons | apply Sb.app))) (rd_move rfl) rfl (by kernel_rfl) ?_
    refine xm_gtake 22 (m' := 8388607) rfl (by kernel_rfl) (by first | exact Sb.refl | exact Sb.nil | (repeat (first | exact Sb.nil | exact Sb.refl | exact Sb.app0 | apply Sb.keep | apply Sb.keepApp | apply Sb.cons | apply Sb.app))) rfl rfl (rd_move rfl) rfl (by kernel_rfl) ?_
    refine xm_gtake 23 (m' := 16777215) rfl (by kernel_rfl) (by first | exact Sb.refl | exact Sb.nil | (repeat (first | exact Sb.nil | exact Sb.refl | exact Sb.app0 | apply Sb.keep | apply Sb.keepApp | apply Sb.cons | apply Sb.app))) rfl rfl (rd_loadB rfl Kn.o1 (by rfl)) rfl (by kernel_rfl) ?_
    refine xm_gtake 24 (m' := 33554431) rfl (by kernel_rfl) (by first | exact Sb.refl | exact Sb.nil | (repeat (first | exact Sb.nil | exact Sb.refl | exact Sb.app0 | apply Sb.keep | apply Sb.keepApp | apply Sb.cons | apply Sb.app))) rfl rfl (rd_move rfl) rfl (by kernel_rfl) ?_
    refine xm_gtake 26 (m' := 100663295) rfl (by kernel_rfl) (by first | exact Sb.refl | exact Sb.nil | (repeat (first | exact Sb.nil | exact Sb.refl | exact Sb.app0 | apply Sb.keep | apply Sb.keepApp | apply Sb.cons | apply Sb.app))) rfl rfl (rd_loadB rfl Kn.o1 (by rfl)) rfl (by kernel_rfl) ?_
    refine xm_gone 25 (m' := 134217727) rfl (by kernel_rfl) rfl rfl rfl (by kernel_rfl) (ef_call rfl (XF.mono (xf_block0 x now) ?_))
    rintro v L' ⟨rfl, rfl⟩
    refine ⟨(by first | exact Sb.refl | exact Sb.nil | (repeat (first | exact Sb.nil | exact Sb.refl | exact Sb.app0 | apply Sb.keep | apply Sb.keepApp | apply Sb.cons | apply Sb.app))), ?_⟩
    refine xm_gtake 27 (m' := 268435455) rfl (by kernel_rfl) (by first | exact Sb.refl | exact Sb.nil | (repeat (first | exact Sb.nil | exact Sb.refl | exact Sb.app0 | apply Sb.keep | apply Sb.keepApp | apply Sb.cons | apply Sb.app))) rfl rfl (rd_eq30 rfl rfl) rfl (by kernel_rfl) ?_
    refine xm_take 28 (m' := 536870911) rfl (by kernel_rfl) (by first | exact Sb.refl | exact Sb.nil | (repeat (first | exact Sb.nil | exact Sb.refl | exact Sb.app0 | apply Sb.keep | apply Sb.keepApp | apply Sb.cons | apply Sb.app))) (rd_pickt rfl rfl) rfl (by kernel_rfl) ?_
    refine xm_take 29 (m' := 1073741823) rfl (by kernel_rfl) (by first | exact Sb.refl | exact Sb.nil | (repeat (first | exact Sb.nil | exact Sb.refl | exact Sb.app0 | apply Sb.keep | apply Sb.keepApp | apply Sb.cons | apply Sb.app))) (rd_move rfl) rfl (by kernel_rfl) ?_
    refine xm_gtake 30 (m' := 2147483647) rfl (by kernel_rfl) (by first | exact Sb.refl | exact Sb.nil | (repeat (first | exact Sb.nil | exact Sb.refl | exact Sb.app0 | apply Sb.keep | apply Sb.keepApp | apply Sb.cons | apply Sb.app))) rfl rfl (rd_move rfl) rfl (by kernel_rfl) ?_
    refine xm_gtake 31 (m' := 4294967295) rfl (by kernel_rfl) (by first | exact Sb.refl | exact Sb.nil | (repeat (first | exact Sb.nil | exact Sb.refl | exact Sb.app0 | apply Sb.keep | apply Sb.keepApp | apply Sb.cons | apply Sb.app))) rfl rfl (rd_move rfl) rfl (by kernel_rfl) ?_
    refine xm_gtake 32 (m' := 8589934591) rfl (by kernel_rfl) (by first | exact Sb.refl | exact Sb.nil | (repeat (first | exact Sb.nil | exact Sb.refl | exact Sb.app0 | apply Sb.keep | apply Sb.keepApp | apply Sb.cons | apply Sb.app))) rfl rfl (rd_eql rfl rfl) rfl (by kernel_rfl) ?_
    refine xm_take 33 (m' := 17179869183) rfl (by kernel_rfl) (by first | exact Sb.refl | exact Sb.nil | (repeat (first | exact Sb.nil | exact Sb.refl | exact Sb.app0 | apply Sb.keep | apply Sb.keepApp | apply Sb.cons | apply Sb.app))) (rd_pickt rfl rfl) rfl (by kernel_rfl) ?_
    refine xm_take 34 (m' := 34359738367) rfl (by kernel_rfl) (by first | exact Sb.refl | exact Sb.nil | (repeat (first | exact Sb.nil | exact Sb.refl | exact Sb.app0 | apply Sb.keep | apply Sb.keepApp | apply Sb.cons | apply Sb.app))) (rd_move rfl) rfl (by kernel_rfl) ?_
    refine xm_dec 82 rfl (fun _ => ?_) (fun h => absurd rfl h)
    refine xm_gtake 35 (m' := 68719476735) rfl (by kernel_rfl) (by first | exact Sb.refl | exact Sb.nil | (repeat (first | exact Sb.nil | exact Sb.refl | exact Sb.app0 | apply Sb.keep | apply Sb.keepApp | apply Sb.cons | apply Sb.app))) rfl rfl (rd_move rfl) rfl (by kernel_rfl) ?_
    refine xm_gtake 36 (m' := 137438953471) rfl (by kernel_rfl) (by first | exact Sb.refl | exact Sb.nil | (repeat (first | exact Sb.nil | exact Sb.refl | exact Sb.app0 | apply Sb.keep | apply Sb.keepApp | apply Sb.cons | apply Sb.app))) rfl rfl (rd_move rfl) rfl (by kernel_rfl) ?_
    refine xm_gone 37 (m' := 274877906943) rfl (by kernel_rfl) rfl rfl rfl (by kernel_rfl) (ef_call rfl (XF.mono (xf_samebytesT s7 s8 out.length out.length k7 k8 out out rfl rfl rfl (hO7.rs (by intro z hz; simp [hz])) (hO8.rs (by intro z hz; simp [hz])) hol) ?_))
    rintro v L' ⟨rfl, rfl⟩
    refine ⟨(by first | exact Sb.refl | exact Sb.nil | (repeat (first | exact Sb.nil | exact Sb.refl | exact Sb.app0 | apply Sb.keep | apply Sb.keepApp | apply Sb.cons | apply Sb.app))), ?_⟩
    refine xm_take 38 (m' := 549755813887) rfl (by kernel_rfl) (by first | exact Sb.refl | exact Sb.nil | (repeat (first | exact Sb.nil | exact Sb.refl | exact Sb.app0 | apply Sb.keep | apply Sb.keepApp | apply Sb.cons | apply Sb.app))) (rd_pickt rfl rfl) rfl (by kernel_rfl) ?_
    refine xm_take 39 (m' := 1099511627775) rfl (by kernel_rfl) (by first | exact Sb.refl | exact Sb.nil | (repeat (first | exact Sb.nil | exact Sb.refl | exact Sb.app0 | apply Sb.keep | apply Sb.keepApp | apply Sb.cons | apply Sb.app))) (rd_move rfl) rfl (by kernel_rfl) ?_
    refine xm_gone 40 (m' := 2199023255551) rfl (by kernel_rfl) rfl rfl rfl (by kernel_rfl) (ef_call rfl (XF.mono (xf_works) ?_))
    rintro v L' ⟨rfl, rfl⟩
    refine ⟨(by first | exact Sb.refl | exact Sb.nil | (repeat (first | exact Sb.nil | exact Sb.refl | exact Sb.app0 | apply Sb.keep | apply Sb.keepApp | apply Sb.cons | apply Sb.app))), ?_⟩
    refine xm_take 41 (m' := 4398046511103) rfl (by kernel_rfl) (by first | exact Sb.refl | exact Sb.nil | (repeat (first | exact Sb.nil | exact Sb.refl | exact Sb.app0 | apply Sb.keep | apply Sb.keepApp | apply Sb.cons | apply Sb.app))) (rd_pickt rfl rfl) rfl (by kernel_rfl) ?_
    refine xm_take 42 (m' := 8796093022207) rfl (by kernel_rfl) (by first | exact Sb.refl | exact Sb.nil | (repeat (first | exact Sb.nil | exact Sb.refl | exact Sb.app0 | apply Sb.keep | apply Sb.keepApp | apply Sb.cons | apply Sb.app))) (rd_assign rfl) rfl (by kernel_rfl) ?_
    refine xm_done (by kernel_rfl) ?_
    refine xq_seq ?_
    refine xc_ret ?_
    rotate_left
  all_goals exact xq_sb (M := L) (by first | exact Sb.refl | exact Sb.nil | (repeat (first | exact Sb.nil | exact Sb.refl | exact Sb.app0 | apply Sb.keep | apply Sb.keepApp | apply Sb.cons | apply Sb.app))) (xq_ret1 (.inl rfl) Try.results5 rfl ⟨rfl, rfl⟩)
end
end Go.Proofs.Ytogilblilljpmaa.X
