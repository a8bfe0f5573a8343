/-
  A packet is written: a walk of my own.
-/
import Derived.Test.YtpcmnbagalhjiaaB2
namespace Go.Proofs.Ytpcmnbagalhjiaa.X
open Go Go.RowKit
set_option linter.unusedVariables false
set_option linter.unusedSimpArgs false
theorem xf_size2 {W : World} {L : List Blk} (q : Pk) (p1 p2 p3 : Option Addr) (c1 c2 c3 : Nat) (b1 : q.cs.length ≤ 1000000) (b2 : q.ex.length ≤ 1000000) (b3 : q.pl.length ≤ 1000000) (b4 : By q.pd) {z : Int} (hz : z = q.size) :
    XF Try.prog W 23 #[.agg (q.enc (.slice p1 q.cs.length c1) (.slice p2 q.ex.length c2) (.slice p3 q.pl.length c3)).toArray] L (fun v L' => v = .int .i64 z ∧ L' = L) := by
  subst hz; exact xf_size q p1 p2 p3 c1 c2 c3 b1 b2 b3 b4
set_option maxHeartbeats 8000000 in
theorem xf_put {W : World} {L : List Blk} (q : Pk) (p1 p2 p3 : Option Addr) (c1 c2 c3 : Nat) (h1 : Rs W L p1 (ints .u32 q.cs)) (h2 : Rs W L p2 (ints .u8 q.ex)) (h3 : Rs W L p3 (ints .u8 q.pl)) (hg : q.Rg) (b1 : q.cs.length ≤ 1000000) (b2 : q.ex.length ≤ 1000000) (b3 : q.pl.length ≤ 1000000) :
    XF Try.prog W 19 #[.agg (q.enc (.slice p1 q.cs.length c1) (.slice p2 q.ex.length c2) (.slice p3 q.pl.length c3)).toArray] L (fun v L' => ∃ s k l, v = .tuple #[.slice s (putR q).1.length k, .int .i64 (putR q).2] ∧ SlO 1 5 (.slice s (putR q).1.length k) (putR q).1.length (ints .u8 (putR q).1) l ∧ L' = l ++ L) := by
  refine xf_enter (args := [_]) Try.func19 rfl Try.ntmps19 rfl ?_
  by_cases hR : q.Right
  · have hpu : putR q = (putL q, 0) := by unfold putR; rw [if_pos hR]
    rw [hpu]
    obtain ⟨mr, ty, sq, tm, ss, cs, hx, pf, ex, pl, pd⟩ := q
    have g1 := hg.ty; have g2 := hg.sq; have g3 := hg.tm; have g4 := hg.ss; have g5 := hg.cs; have g6 := hg.pf; have g7 := hg.pd
    obtain ⟨e1, e2, e3, e4, e5⟩ := hR
    dsimp only [By, U2, U4] at h1 h2 h3 b1 b2 b3 g1 g2 g3 g4 g5 g6 g7 e1 e2 e3 e4 e5
    dsimp only [Pk.enc]
    focus
      refine xc_seq ?_
      refine xc_region ?_
      refine xo_ef rfl (ef_box rfl fun r1 => ?_)
      refine xo_rd (rd_assign rfl) rfl ?_
      refine xo_rd (rd_assign rfl) rfl ?_
      refine xo_nil ?_
      refine xq_seq ?_
      refine xc_seq ?_
      refine xc_seq ?_
      refine xc_region ?_
      refine xo_rd (rd_loadB rfl Kn.o0 (by rfl)) rfl ?_
      refine xo_ef rfl (ef_call rfl (XF.mono (xf_rightT ⟨mr, ty, sq, tm, ss, cs, hx, pf, ex, pl, pd⟩ p1 p2 p3 c1 c2 c3 b1 b2 ⟨e1, e2, e3, e4, e5⟩) ?_))
      rintro v L' ⟨rfl, rfl⟩
      refine xo_rd (rd_not rfl) rfl ?_
      refine xo_nil ?_
      refine xq_seq ?_
      refine xc_condf rfl ?_
      refine xc_skip ?_
      refine xq_seq ?_
      refine xc_seq ?_
      refine xc_drawML [0, 1, 2, 4, 8, 0, 32, 31, 255] [0, 1, 2, 4, 8, 0, 32, 31, 255] (by kernel_rfl) (by kernel_rfl) (by kernel_rfl) ?_
      refine xm_take 0 (m' := 1) rfl (by kernel_rfl) (by first | exact Sb.refl | exact Sb.nil | (repeat (first | exact Sb.nil | exact Sb.refl | exact Sb.app0 | apply Sb.keep | apply Sb.keepApp | apply Sb.cons | apply Sb.app))) (rd_fieldAddr rfl) rfl (by kernel_rfl) ?_
      refine xm_take 1 (m' := 3) rfl (by kernel_rfl) (by first | exact Sb.refl | exact Sb.nil | (repeat (first | exact Sb.nil | exact Sb.refl | exact Sb.app0 | apply Sb.keep | apply Sb.keepApp | apply Sb.cons | apply Sb.app))) (rd_load1 rfl (Cl.o0 rfl)) rfl (by kernel_rfl) ?_
      refine xm_take 2 (m' := 7) rfl (by kernel_rfl) (by first | exact Sb.refl | exact Sb.nil | (repeat (first | exact Sb.nil | exact Sb.refl | exact Sb.app0 | apply Sb.keep | apply Sb.keepApp | apply Sb.cons | apply Sb.app))) (rd_len rfl) rfl (by kernel_rfl) ?_
      refine xm_take 3 (m' := 15) rfl (by kernel_rfl) (by first | exact Sb.refl | exact Sb.nil | (repeat (first | exact Sb.nil | exact Sb.refl | exact Sb.app0 | apply Sb.keep | apply Sb.keepApp | apply Sb.cons | apply Sb.app))) (rd_cast (v' := .int .i64 (128 + (cs.length : Int))) (rd_or rfl rfl) (by rw [or64_128 _ (by omega) (by omega)])) rfl (by kernel_rfl) ?_
      refine xm_take 4 (m' := 31) rfl (by kernel_rfl) (by first | exact Sb.refl | exact Sb.nil | (repeat (first | exact Sb.nil | exact Sb.refl | exact Sb.app0 | apply Sb.keep | apply Sb.keepApp | apply Sb.cons | apply Sb.app))) (rd_convn rfl (by omega) (by omega)) rfl (by kernel_rfl) ?_
      refine xm_take 5 (m' := 63) rfl (by kernel_rfl) (by first | exact Sb.refl | exact Sb.nil | (repeat (first | exact Sb.nil | exact Sb.refl | exact Sb.app0 | apply Sb.keep | apply Sb.keepApp | apply Sb.cons | apply Sb.app))) (rd_fieldAddr rfl) rfl (by kernel_rfl) ?_
      refine xm_take 6 (m' := 127) rfl (by kernel_rfl) (by first | exact Sb.refl | exact Sb.nil | (repeat (first | exact Sb.nil | exact Sb.refl | exact Sb.app0 | apply Sb.keep | apply Sb.keepApp | apply Sb.cons | apply Sb.app))) (rd_load1 rfl (Cl.o0 rfl)) rfl (by kernel_rfl) ?_
      refine xm_take 7 (m' := 255) rfl (by kernel_rfl) (by first | exact Sb.refl | exact Sb.nil | (repeat (first | exact Sb.nil | exact Sb.refl | exact Sb.app0 | apply Sb.keep | apply Sb.keepApp | apply Sb.cons | apply Sb.app))) (rd_assign rfl) rfl (by kernel_rfl) ?_
      refine xm_take 8 (m' := 511) rfl (by kernel_rfl) (by first | exact Sb.refl | exact Sb.nil | (repeat (first | exact Sb.nil | exact Sb.refl | exact Sb.app0 | apply Sb.keep | apply Sb.keepApp | apply Sb.cons | apply Sb.app))) (rd_assign rfl) rfl (by kernel_rfl) ?_
      refine xm_done (by kernel_rfl) ?_
      refine xq_seq ?_
    refine xc_join (ι := Unit) (fun _ => True) (fun _ => (r1, .cells #[.bool mr, .int .u8 ty, .int .u16 sq, .int .u32 tm, .int .u32 ss, .slice p1 cs.length c1, .bool hx, .int .u16 pf, .slice p2 ex.length c2, .slice p3 pl.length c3, .int .u8 pd] 33 (0, 0)) :: L) (fun _ => [(1, .pointer (some ⟨r1, 0, none⟩)), (4, .int .u8 (128 + (cs.length : Int) + if 0 < pd then 32 else 0)), (5, .int .u8 (ty))]) ?_ ?_
    · skip
      focus
        refine xc_seq ?_
        refine xc_region ?_
        refine xo_rd (rd_fieldAddr rfl) rfl ?_
        refine xo_rd (rd_load1 rfl (Cl.o0 rfl)) rfl ?_
        refine xo_rd (rd_gtr rfl rfl) rfl ?_
        refine xo_nil ?_
        refine xq_seq ?_
        refine xc_dec rfl (fun hw1 => ?_) (fun hw1 => ?_)
        refine xc_region ?_
        refine xo_rd (rd_move rfl) rfl ?_
        refine xo_rd (rd_cast (v' := .int .u8 (128 + (cs.length : Int) + 32)) (rd_or rfl rfl) (by rw [or8_32 _ (by omega) (by omega) (by omega)])) rfl ?_
        refine xo_rd (rd_assign rfl) rfl ?_
        refine xo_nil ?_
        rotate_left
        refine xc_skip ?_
        rotate_left
      · rw [if_pos (by omega)]
        exact xq_joined () trivial rfl (by repeat (first | exact keep_nil | refine keep_cons rfl ?_))
      · rw [if_neg (by omega), Int.add_zero]
        exact xq_joined () trivial rfl (by repeat (first | exact keep_nil | refine keep_cons rfl ?_))
    rintro _ _
    obtain ⟨aa, haa⟩ : ∃ aa, aa = 128 + (cs.length : Int) + if 0 < pd then 32 else 0 := ⟨_, rfl⟩
    have haar : 0 ≤ aa ∧ aa ≤ 239 ∧ aa / 16 % 2 = 0 := by rw [haa]; split <;> omega
    rw [← haa]
    refine xc_join (ι := Unit) (fun _ => True) (fun _ => (r1, .cells #[.bool mr, .int .u8 ty, .int .u16 sq, .int .u32 tm, .int .u32 ss, .slice p1 cs.length c1, .bool hx, .int .u16 pf, .slice p2 ex.length c2, .slice p3 pl.length c3, .int .u8 pd] 33 (0, 0)) :: L) (fun _ => [(1, .pointer (some ⟨r1, 0, none⟩)), (4, .int .u8 (aa + if hx then 16 else 0)), (5, .int .u8 (ty))]) ?_ ?_
    · skip
      cases hx
      · focus
          refine xc_seq ?_
          refine xc_region ?_
          refine xo_rd (rd_fieldAddr rfl) rfl ?_
          refine xo_rd (rd_load1 rfl (Cl.o0 rfl)) rfl ?_
          refine xo_nil ?_
          refine xq_seq ?_
          refine xc_condf rfl ?_
          refine xc_skip ?_
        rw [if_neg (show ¬ (false = true) from by decide), Int.add_zero]
        exact xq_joined () trivial rfl (by repeat (first | exact keep_nil | refine keep_cons rfl ?_))
      · focus
          refine xc_seq ?_
          refine xc_region ?_
          refine xo_rd (rd_fieldAddr rfl) rfl ?_
          refine xo_rd (rd_load1 rfl (Cl.o0 rfl)) rfl ?_
          refine xo_nil ?_
          refine xq_seq ?_
          refine xc_condt rfl ?_
          refine xc_region ?_
          refine xo_rd (rd_move rfl) rfl ?_
          refine xo_rd (rd_cast (v' := .int .u8 (aa + 16)) (rd_or rfl rfl) (by rw [or8_16 _ (by omega) (by omega) (by omega)])) rfl ?_
          refine xo_rd (rd_assign rfl) rfl ?_
          refine xo_nil ?_
        rw [if_pos rfl]
        exact xq_joined () trivial rfl (by repeat (first | exact keep_nil | refine keep_cons rfl ?_))
    rintro _ _
    refine xc_join (ι := Unit) (fun _ => True) (fun _ => (r1, .cells #[.bool mr, .int .u8 ty, .int .u16 sq, .int .u32 tm, .int .u32 ss, .slice p1 cs.length c1, .bool hx, .int .u16 pf, .slice p2 ex.length c2, .slice p3 pl.length c3, .int .u8 pd] 33 (0, 0)) :: L) (fun _ => [(1, .pointer (some ⟨r1, 0, none⟩)), (4, .int .u8 (aa + if hx then 16 else 0)), (5, .int .u8 (ty + if mr then 128 else 0))]) ?_ ?_
    · skip
      cases mr
      · focus
          refine xc_seq ?_
          refine xc_region ?_
          refine xo_rd (rd_fieldAddr rfl) rfl ?_
          refine xo_rd (rd_load1 rfl (Cl.o0 rfl)) rfl ?_
          refine xo_nil ?_
          refine xq_seq ?_
          refine xc_condf rfl ?_
          refine xc_skip ?_
        rw [if_neg (show ¬ (false = true) from by decide), Int.add_zero]
        exact xq_joined () trivial rfl (by repeat (first | exact keep_nil | refine keep_cons rfl ?_))
      · focus
          refine xc_seq ?_
          refine xc_region ?_
          refine xo_rd (rd_fieldAddr rfl) rfl ?_
          refine xo_rd (rd_load1 rfl (Cl.o0 rfl)) rfl ?_
          refine xo_nil ?_
          refine xq_seq ?_
          refine xc_condt rfl ?_
          refine xc_region ?_
          refine xo_rd (rd_move rfl) rfl ?_
          refine xo_rd (rd_cast (v' := .int .u8 (ty + 128)) (rd_or rfl rfl) (by rw [or8_128 _ (by omega) (by omega)])) rfl ?_
          refine xo_rd (rd_assign rfl) rfl ?_
          refine xo_nil ?_
        rw [if_pos rfl]
        exact xq_joined () trivial rfl (by repeat (first | exact keep_nil | refine keep_cons rfl ?_))
    rintro _ _
    obtain ⟨ff, hff⟩ : ∃ ff, ff = 128 + (cs.length : Int) + (if 0 < pd then 32 else 0) + if hx then 16 else 0 := ⟨_, rfl⟩
    obtain ⟨gg, hgg⟩ : ∃ gg, gg = ty + if mr then 128 else 0 := ⟨_, rfl⟩
    have hffr : 0 ≤ ff ∧ ff ≤ 255 := by rw [hff]; constructor <;> (split <;> split <;> omega)
    have hggr : 0 ≤ gg ∧ gg ≤ 255 := by rw [hgg]; constructor <;> (split <;> omega)
    rw [haa, ← hff, ← hgg]
    have hbx : ∀ L', (r1, .cells #[.bool mr, .int .u8 ty, .int .u16 sq, .int .u32 tm, .int .u32 ss, .slice p1 cs.length c1, .bool hx, .int .u16 pf, .slice p2 ex.length c2, .slice p3 pl.length c3, .int .u8 pd] 33 (0, 0)) ∈ L' → ∀ i v, [Value.bool mr, .int .u8 ty, .int .u16 sq, .int .u32 tm, .int .u32 ss, .slice p1 cs.length c1, .bool hx, .int .u16 pf, .slice p2 ex.length c2, .slice p3 pl.length c3, .int .u8 pd][i]? = some v → Cl W L' r1 i v := fun L' hL' i v hv => Cl.own hL' (by simpa using hv)
    obtain ⟨sz, hsz⟩ : ∃ sz, sz = Pk.size ⟨mr, ty, sq, tm, ss, cs, hx, pf, ex, pl, pd⟩ := ⟨_, rfl⟩
    have hszr : 0 ≤ sz ∧ sz ≤ 16777216 := by rw [hsz]; dsimp only [Pk.size]; constructor <;> (split <;> omega)
    focus
      refine xc_seq ?_
      refine xc_region ?_
      refine xo_rd (rd_loadB rfl Kn.o0 (by rfl)) rfl ?_
      refine xo_ef rfl (ef_call rfl (XF.mono (xf_size2 ⟨mr, ty, sq, tm, ss, cs, hx, pf, ex, pl, pd⟩ p1 p2 p3 c1 c2 c3 b1 b2 b3 hg.pd hsz) ?_))
      rintro v L' ⟨rfl, rfl⟩
      refine xo_ef rfl (ef_makeSlice rfl rfl rfl (by omega) (by omega) (by omega) (by decide) fun r37 => ?_)
      refine xo_ef rfl (ef_alloc fun r6 => ?_)
      refine xo_ef rfl (ef_store1 [] _ rfl rfl (by first | rfl | assumption) rfl rfl rfl ?_)
      refine xo_nil ?_
      refine xq_seq ?_
      refine xc_seq ?_
      refine xc_region ?_
      refine xo_rd (rd_makeFunc rfl rfl) rfl ?_
      refine xo_rd (rd_assign rfl) rfl ?_
      refine xo_nil ?_
      refine xq_seq ?_
    refine xc_perm (L' := (r6, .cells #[.slice (some ⟨r37, 0, none⟩) 0 sz.toNat] 22 (0, 0)) :: ([(r37, .cells (List.replicate sz.toNat (.int .u8 0)).toArray 5 (0, 0))] ++ ((r1, .cells #[.bool mr, .int .u8 ty, .int .u16 sq, .int .u32 tm, .int .u32 ss, .slice p1 cs.length c1, .bool hx, .int .u16 pf, .slice p2 ex.length c2, .slice p3 pl.length c3, .int .u8 pd] 33 (0, 0)) :: L))) (.refl _) ?_
    focus
      refine xc_seq ?_
      refine xc_region ?_
      refine xo_rd (rd_move rfl) rfl ?_
      refine xo_rd (rd_move rfl) rfl ?_
      refine xo_rd (rd_move rfl) rfl ?_
      refine xo_rd (rd_fieldAddr rfl) rfl ?_
      refine xo_rd (rd_load1 rfl (hbx _ (by simp) _ _ rfl)) rfl ?_
      refine xo_rd (rd_shr rfl rfl (by decide) (by decide)) rfl ?_
      refine xo_rd (rd_cast (v' := .int .u8 (sq / 256 % 256)) (rd_conv rfl) (congrArg (Value.int .u8) (wrap8 (sq / 256)))) rfl ?_
      refine xo_rd (rd_fieldAddr rfl) rfl ?_
      refine xo_rd (rd_load1 rfl (hbx _ (by simp) _ _ rfl)) rfl ?_
      refine xo_rd (rd_cast (v' := .int .u8 (sq % 256)) (rd_conv rfl) (congrArg (Value.int .u8) (wrap8 sq))) rfl ?_
      refine xo_ef rfl (ef_buildL (T := 22) (len := 4) (s := 1) (cells := (ints .u8 ([ff, gg] ++ be2 sq)).toArray) rfl (by decide) (by decide) (by kernel_rfl) fun r49 => ?_)
      refine xo_ef rfl (ef_callv rfl rfl (XF.mono (xf_putG [(r49, .cells (ints .u8 ([ff, gg] ++ be2 sq)).toArray 5 (0, 0))] ((r1, .cells #[.bool mr, .int .u8 ty, .int .u16 sq, .int .u32 tm, .int .u32 ss, .slice p1 cs.length c1, .bool hx, .int .u16 pf, .slice p2 ex.length c2, .slice p3 pl.length c3, .int .u8 pd] 33 (0, 0)) :: L) r6 _ 0 [] ([ff, gg] ++ be2 sq) [(r37, .cells (List.replicate sz.toNat (.int .u8 0)).toArray 5 (0, 0))] (some ⟨r49, 0, none⟩) 4 4 SlO.made0 (Rs.fresh (List.Mem.head _)) rfl (by omega) (by omega)) ?_))
      rintro v L' ⟨rfl, qa, ka, la, hOa, rfl⟩
      refine xo_nil ?_
      refine xq_seq ?_
    rw [List.nil_append] at hOa
    refine xc_join (ι := OuS) (fun s => s.n = 12 + 4 * cs.length ∧ SlO 1 5 s.v s.n (ints .u8 (hdL ⟨mr, ty, sq, tm, ss, cs, hx, pf, ex, pl, pd⟩ ++ cs.flatMap be4)) s.l) (fun s => (r6, .cells #[s.v] 22 (0, 0)) :: (s.l ++ ((r1, .cells #[.bool mr, .int .u8 ty, .int .u16 sq, .int .u32 tm, .int .u32 ss, .slice p1 cs.length c1, .bool hx, .int .u16 pf, .slice p2 ex.length c2, .slice p3 pl.length c3, .int .u8 pd] 33 (0, 0)) :: L))) (fun s => [(1, .pointer (some ⟨r1, 0, none⟩)), (6, .pointer (some ⟨r6, 0, none⟩)), (7, .func (.func 34) #[] #[.pointer (some ⟨r6, 0, none⟩)])]) ?_ ?_
    · focus
        refine xc_seq ?_
        refine xc_region ?_
        refine xo_rd (rd_fieldAddr rfl) rfl ?_
        refine xo_rd (rd_load1 rfl (hbx _ (by simp) _ _ rfl)) rfl ?_
        refine xo_rd (rd_fieldAddr rfl) rfl ?_
        refine xo_rd (rd_load1 rfl (hbx _ (by simp) _ _ rfl)) rfl ?_
        refine xo_ef rfl (ef_buildL (T := 27) (len := 2) (s := 1) (cells := (ints .u32 [tm, ss]).toArray) rfl (by decide) (by decide) (by kernel_rfl) fun r55 => ?_)
        refine xo_rd (rd_fieldAddr rfl) rfl ?_
        refine xo_rd (rd_load1 rfl (hbx _ (by simp) _ _ rfl)) rfl ?_
        refine xo_ef rfl (ef_appendS [] _ [(r55, .cells (ints .u32 [tm, ss]).toArray 26 (0, 0))] (news := ints .u32 cs) rfl rfl (SlO.lit rfl) rfl (h1.mono (by intro z hz; simp [hz])) (by rw [ints_len, Nat.mul_one]) (ints_one _ _) (by decide) (by omega) (by omega) fun qx kx lx hOx hcx => ?_)
        refine xo_rd (rd_len rfl) rfl ?_
        refine xo_rd (rd_move rfl) rfl ?_
        refine xo_nil ?_
        refine xq_seq ?_
        refine xc_block ?_
      rw [← ints_app] at hOx
      obtain ⟨tl, htl⟩ : ∃ tl, tl = [tm, ss] ++ cs := ⟨_, rfl⟩
      rw [← htl] at hOx
      have htl2 : tl.length = 2 + cs.length := by rw [htl]; simp; omega
      have htu : ∀ x, x ∈ tl → 0 ≤ x ∧ x ≤ 4294967295 := by
        rw [htl]; intro x hx
        simp only [List.cons_append, List.nil_append, List.mem_cons] at hx
        rcases hx with rfl | rfl | hx
        · exact g3
        · exact g4
        · exact g5 x hx
      obtain ⟨bx, ox, rfl, _⟩ := (hOx.rs (W := W) (L := lx) (fun _ h => h)).int (i := 0) (by omega)
      have hcx : ∀ i, (hi : i < tl.length) → ∀ L', (∀ z, z ∈ lx → z ∈ L') → Cl W L' bx (ox + i * 1) (.int .u32 tl[i]) := fun i hi L' hL' => by
        obtain ⟨b', o', he, hci⟩ := (hOx.rs (W := W) hL').int hi
        simp only [Option.some.injEq, Addr.mk.injEq, and_true] at he
        obtain ⟨rfl, rfl⟩ := he
        exact hci
      refine xc_perm (L' := (r6, .cells #[.slice qa (0 + 4) ka] 22 (0, 0)) :: (la ++ (lx ++ ((r1, .cells #[.bool mr, .int .u8 ty, .int .u16 sq, .int .u32 tm, .int .u32 ss, .slice p1 cs.length c1, .bool hx, .int .u16 pf, .slice p2 ex.length c2, .slice p3 pl.length c3, .int .u8 pd] 33 (0, 0)) :: L)))) (by classical exact List.perm_iff_count.2 fun a => by simp only [List.append_eq, List.count_append, List.count_cons, List.count_nil, List.cons_append, List.nil_append, List.flatMap_append, List.flatMap_cons, List.flatMap_nil, List.append_nil]; omega) ?_
      refine xc_loopI (ι := OuS) (fun s => s.k ≤ tl.length ∧ s.n = 4 + 4 * s.k ∧ SlO 1 5 s.v s.n (ints .u8 ([ff, gg] ++ be2 sq ++ (tl.take s.k).flatMap be4)) s.l) (fun s => tl.length - s.k) (fun s => (r6, .cells #[s.v] 22 (0, 0)) :: (s.l ++ (lx ++ ((r1, .cells #[.bool mr, .int .u8 ty, .int .u16 sq, .int .u32 tm, .int .u32 ss, .slice p1 cs.length c1, .bool hx, .int .u16 pf, .slice p2 ex.length c2, .slice p3 pl.length c3, .int .u8 pd] 33 (0, 0)) :: L)))) (fun s => [(1, .pointer (some ⟨r1, 0, none⟩)), (6, .pointer (some ⟨r6, 0, none⟩)), (7, .func (.func 34) #[] #[.pointer (some ⟨r6, 0, none⟩)]), (58, .slice (some ⟨bx, ox, none⟩) (2 + cs.length) kx), (59, .int .i64 (2 + cs.length : Nat)), (60, .int .i64 s.k)]) ⟨0, 0 + 4, _, la⟩ ⟨Nat.zero_le _, rfl, by dsimp only; rw [List.take_zero, List.flatMap_nil, List.append_nil]; exact hOa⟩ rfl (by repeat (first | exact keep_nil | refine keep_cons rfl ?_)) ?_
      rintro ⟨k, n, v, l⟩ ⟨hk, hn, hO⟩
      dsimp only at hk hn hO ⊢
      subst hn
      by_cases hkl : k < tl.length
      · have hck := htu tl[k] (List.getElem_mem _)
        focus
          refine xc_seq ?_
          refine xc_region ?_
          refine xo_rd (rd_lss rfl rfl) rfl ?_
          refine xo_nil ?_
          refine xq_seq ?_
          refine xc_seq ?_
          refine xc_dec rfl (fun hw1 => ?_) (fun hw1 => (by exfalso; omega))
          refine xc_skip ?_
          refine xq_seq ?_
          refine xc_seq ?_
          refine xc_block ?_
          refine xc_seq ?_
          refine xc_region ?_
          refine xo_rd (rd_indexAddr rfl rfl (by omega) (by omega)) rfl ?_
          refine xo_rd (rd_load1 rfl (hcx k hkl _ (by intro z hz; simp [hz]))) rfl ?_
          refine xo_rd (rd_assign rfl) rfl ?_
          refine xo_nil ?_
          refine xq_seq ?_
          refine xc_seq ?_
          refine xc_region ?_
          refine xo_rd (rd_move rfl) rfl ?_
          refine xo_ef rfl (ef_call rfl (XF.mono (xf_long tl[k] hck.1 hck.2) ?_))
          rintro v L' ⟨rfl, rfl⟩
          refine xo_ef rfl (ef_alloc fun r10 => ?_)
          refine xo_ef rfl (ef_storeB [] _ rfl rfl (by first | rfl | assumption) rfl rfl rfl ?_)
          refine xo_nil ?_
          refine xq_seq ?_
          refine xc_region ?_
          refine xo_rd (rd_move rfl) rfl ?_
          refine xo_rd (rd_slArr rfl (by decide)) rfl ?_
          refine xo_ef rfl (ef_callv rfl rfl (XF.mono (xf_putG [(r10, .cells (ints .u8 (be4 tl[k])).toArray 63 (0, 0))] (lx ++ ((r1, .cells #[.bool mr, .int .u8 ty, .int .u16 sq, .int .u32 tm, .int .u32 ss, .slice p1 cs.length c1, .bool hx, .int .u16 pf, .slice p2 ex.length c2, .slice p3 pl.length c3, .int .u8 pd] 33 (0, 0)) :: L)) r6 v (4 + 4 * k) _ (be4 tl[k]) l (some ⟨r10, 0, none⟩) 4 4 hO (Rs.fresh (List.Mem.head _)) rfl (by omega) (by omega)) ?_))
          rintro v L' ⟨rfl, qb, kb, lb, hOb, rfl⟩
          refine xo_nil ?_
          refine xq_block ?_
          refine xq_seq ?_
          refine xc_region ?_
          refine xo_rd (rd_addn rfl rfl (by omega) (by omega)) rfl ?_
          refine xo_rd (rd_move rfl) rfl ?_
          refine xo_nil ?_
        refine xq_roundI (⟨k + 1, 4 + 4 * k + 4, _, lb⟩ : OuS) ⟨by dsimp only; omega, by dsimp only; omega, ?_⟩ (by dsimp only; omega) rfl (by repeat (first | exact keep_nil | refine keep_cons rfl ?_))
        dsimp only
        rw [List.take_add_one, List.getElem?_eq_getElem hkl, List.flatMap_append]
        simpa using hOb
      · skip
        focus
          refine xc_seq ?_
          refine xc_region ?_
          refine xo_rd (rd_lss rfl rfl) rfl ?_
          refine xo_nil ?_
          refine xq_seq ?_
          refine xc_seq ?_
          refine xc_dec rfl (fun hw1 => (by exfalso; omega)) (fun hw1 => ?_)
          refine xc_exit ?_
          refine xq_then_exit ?_
          refine xq_then_exit ?_
          refine xq_block_hit ?_
        rw [List.take_of_length_le (by omega), htl] at hO
        refine xq_sub (L' := (r6, .cells #[v] 22 (0, 0)) :: (l ++ ((r1, .cells #[.bool mr, .int .u8 ty, .int .u16 sq, .int .u32 tm, .int .u32 ss, .slice p1 cs.length c1, .bool hx, .int .u16 pf, .slice p2 ex.length c2, .slice p3 pl.length c3, .int .u8 pd] 33 (0, 0)) :: L))) ((List.Sublist.append_left (List.sublist_append_right lx _) l).cons_cons _) ?_
        refine xq_joined (⟨k, 4 + 4 * k, v, l⟩ : OuS) ⟨by dsimp only; omega, ?_⟩ rfl (by repeat (first | exact keep_nil | refine keep_cons rfl ?_))
        dsimp only
        have hhd : hdL ⟨mr, ty, sq, tm, ss, cs, hx, pf, ex, pl, pd⟩ = [ff, gg] ++ be2 sq ++ be4 tm ++ be4 ss := by rw [hff, hgg]; rfl
        rw [hhd]
        simpa using hO
    rintro ⟨_, n1, v1, l1⟩ ⟨hn1, hO1⟩
    dsimp only at hn1 hO1 ⊢
    have hex : extL ⟨mr, ty, sq, tm, ss, cs, hx, pf, ex, pl, pd⟩ = if hx then be2 pf ++ be2 ((ex.length : Int) / 4) ++ ex else [] := rfl
    refine xc_join (ι := OuS) (fun s => s.n ≤ n1 + 4 + ex.length ∧ SlO 1 5 s.v s.n (ints .u8 (hdL ⟨mr, ty, sq, tm, ss, cs, hx, pf, ex, pl, pd⟩ ++ cs.flatMap be4 ++ extL ⟨mr, ty, sq, tm, ss, cs, hx, pf, ex, pl, pd⟩)) s.l) (fun s => (r6, .cells #[s.v] 22 (0, 0)) :: (s.l ++ ((r1, .cells #[.bool mr, .int .u8 ty, .int .u16 sq, .int .u32 tm, .int .u32 ss, .slice p1 cs.length c1, .bool hx, .int .u16 pf, .slice p2 ex.length c2, .slice p3 pl.length c3, .int .u8 pd] 33 (0, 0)) :: L))) (fun s => [(1, .pointer (some ⟨r1, 0, none⟩)), (6, .pointer (some ⟨r6, 0, none⟩)), (7, .func (.func 34) #[] #[.pointer (some ⟨r6, 0, none⟩)])]) ?_ ?_
    · skip
      rw [hex]
      cases hx
      · focus
          refine xc_seq ?_
          refine xc_region ?_
          refine xo_rd (rd_fieldAddr rfl) rfl ?_
          refine xo_rd (rd_load1 rfl (hbx _ (by simp) _ _ rfl)) rfl ?_
          refine xo_nil ?_
          refine xq_seq ?_
          refine xc_condf rfl ?_
          refine xc_skip ?_
        refine xq_joined (⟨0, n1, v1, l1⟩ : OuS) ⟨by dsimp only; omega, ?_⟩ rfl (by repeat (first | exact keep_nil | refine keep_cons rfl ?_))
        dsimp only
        rw [if_neg (by decide), List.append_nil]
        exact hO1
      · skip
        focus
          refine xc_seq ?_
          refine xc_region ?_
          refine xo_rd (rd_fieldAddr rfl) rfl ?_
          refine xo_rd (rd_load1 rfl (hbx _ (by simp) _ _ rfl)) rfl ?_
          refine xo_nil ?_
          refine xq_seq ?_
          refine xc_condt rfl ?_
          refine xc_seq ?_
          refine xc_region ?_
          refine xo_rd (rd_fieldAddr rfl) rfl ?_
          refine xo_rd (rd_load1 rfl (hbx _ (by simp) _ _ rfl)) rfl ?_
          refine xo_rd (rd_len rfl) rfl ?_
          refine xo_rd (rd_quon rfl rfl (by omega) (by omega) (by omega) (by omega)) rfl ?_
          refine xo_rd (rd_assign rfl) rfl ?_
          refine xo_nil ?_
          refine xq_seq ?_
          refine xc_seq ?_
          refine xc_region ?_
          refine xo_rd (rd_move rfl) rfl ?_
          refine xo_rd (rd_fieldAddr rfl) rfl ?_
          refine xo_rd (rd_load1 rfl (hbx _ (by simp) _ _ rfl)) rfl ?_
          refine xo_rd (rd_shr rfl rfl (by decide) (by decide)) rfl ?_
          refine xo_rd (rd_cast (v' := .int .u8 (pf / 256 % 256)) (rd_conv rfl) (congrArg (Value.int .u8) (wrap8 (pf / 256)))) rfl ?_
          refine xo_rd (rd_fieldAddr rfl) rfl ?_
          refine xo_rd (rd_load1 rfl (hbx _ (by simp) _ _ rfl)) rfl ?_
          refine xo_rd (rd_cast (v' := .int .u8 (pf % 256)) (rd_conv rfl) (congrArg (Value.int .u8) (wrap8 pf))) rfl ?_
          refine xo_rd (rd_move rfl) rfl ?_
          refine xo_rd (rd_shr rfl rfl (by decide) (by decide)) rfl ?_
          refine xo_rd (rd_cast (v' := .int .u8 ((ex.length : Int) / 4 / 256 % 256)) (rd_conv rfl) (congrArg (Value.int .u8) (wrap8 ((ex.length : Int) / 4 / 256)))) rfl ?_
          refine xo_rd (rd_move rfl) rfl ?_
          refine xo_rd (rd_cast (v' := .int .u8 ((ex.length : Int) / 4 % 256)) (rd_conv rfl) (congrArg (Value.int .u8) (wrap8 ((ex.length : Int) / 4)))) rfl ?_
          refine xo_ef rfl (ef_buildL (T := 22) (len := 4) (s := 1) (cells := (ints .u8 (be2 pf ++ be2 ((ex.length : Int) / 4))).toArray) rfl (by decide) (by decide) (by kernel_rfl) fun r89 => ?_)
          refine xo_ef rfl (ef_callv rfl rfl (XF.mono (xf_putG [(r89, .cells (ints .u8 (be2 pf ++ be2 ((ex.length : Int) / 4))).toArray 5 (0, 0))] _ r6 v1 n1 _ (be2 pf ++ be2 ((ex.length : Int) / 4)) l1 (some ⟨r89, 0, none⟩) 4 4 hO1 (Rs.fresh (List.Mem.head _)) rfl (by omega) (by omega)) ?_))
          rintro v L' ⟨rfl, qb, kb, lb, hOb, rfl⟩
          refine xo_nil ?_
          refine xq_seq ?_
          refine xc_region ?_
          refine xo_rd (rd_move rfl) rfl ?_
          refine xo_rd (rd_fieldAddr rfl) rfl ?_
          refine xo_rd (rd_load1 rfl (hbx _ (by simp) _ _ rfl)) rfl ?_
        focus
          refine xo_ef rfl (ef_callv rfl rfl (XF.mono (xf_putG [] _ r6 _ _ _ ex lb p2 ex.length c2 hOb (h2.mono (by intro z hz; simp [hz])) rfl (by omega) (by omega)) ?_))
          rintro v L' ⟨rfl, qc, kc, lc, hOc, rfl⟩
          refine xo_nil ?_
        refine xq_joined (⟨0, n1 + 4 + ex.length, _, lc⟩ : OuS) ⟨by dsimp only; omega, ?_⟩ rfl (by repeat (first | exact keep_nil | refine keep_cons rfl ?_))
        dsimp only
        rw [if_pos rfl]
        simpa using hOc
    rintro ⟨_, n2, v2, l2⟩ ⟨hn2, hO2⟩
    dsimp only at hn2 hO2 ⊢
    focus
      refine xc_seq ?_
      refine xc_region ?_
      refine xo_rd (rd_move rfl) rfl ?_
      refine xo_rd (rd_fieldAddr rfl) rfl ?_
      refine xo_rd (rd_load1 rfl (hbx _ (by simp) _ _ rfl)) rfl ?_
      refine xo_ef rfl (ef_callv rfl rfl (XF.mono (xf_putG [] _ r6 v2 n2 _ pl l2 p3 pl.length c3 hO2 (h3.mono (by intro z hz; simp [hz])) rfl (by omega) (by omega)) ?_))
      rintro v L' ⟨rfl, q3, k3, l3, hO3, rfl⟩
      refine xo_nil ?_
      refine xq_seq ?_
    have hput : ∀ T, tailL pd = T → putL ⟨mr, ty, sq, tm, ss, cs, hx, pf, ex, pl, pd⟩ = hdL ⟨mr, ty, sq, tm, ss, cs, hx, pf, ex, pl, pd⟩ ++ cs.flatMap be4 ++ extL ⟨mr, ty, sq, tm, ss, cs, hx, pf, ex, pl, pd⟩ ++ pl ++ T := fun T h => by
      rw [← h]
      simp only [putL, List.append_assoc]
    generalize hX3 : hdL ⟨mr, ty, sq, tm, ss, cs, hx, pf, ex, pl, pd⟩ ++ cs.flatMap be4 ++ extL ⟨mr, ty, sq, tm, ss, cs, hx, pf, ex, pl, pd⟩ ++ pl = X3 at hO3 hput
    obtain ⟨n3, hn3⟩ : ∃ n3, n3 = n2 + pl.length := ⟨_, rfl⟩
    rw [← hn3] at hO3 ⊢
    by_cases hpd : 0 < pd
    · obtain ⟨z, hz⟩ : ∃ z : Nat, pd - 1 = z := ⟨(pd - 1).toNat, by omega⟩
      have hz2 : (pd - 1).toNat = z := by omega
      focus
        refine xc_seq ?_
        refine xc_seq ?_
        refine xc_region ?_
        refine xo_rd (rd_fieldAddr rfl) rfl ?_
        refine xo_rd (rd_load1 rfl (hbx _ (by simp) _ _ rfl)) rfl ?_
        refine xo_rd (rd_gtr rfl rfl) rfl ?_
        refine xo_nil ?_
        refine xq_seq ?_
        refine xc_dec rfl (fun hw1 => ?_) (fun hw1 => (by exfalso; omega))
        refine xc_seq ?_
        refine xc_region ?_
        refine xo_rd (rd_move rfl) rfl ?_
        refine xo_rd (rd_fieldAddr rfl) rfl ?_
        refine xo_rd (rd_load1 rfl (hbx _ (by simp) _ _ rfl)) rfl ?_
        refine xo_rd (rd_subn rfl rfl (by omega) (by omega)) rfl ?_
        refine xo_ef rfl (ef_makeSlice rfl rfl rfl (by omega) (by omega) (by omega) (by decide) fun r106 => ?_)
        refine xo_ef rfl (ef_callv rfl rfl (XF.mono (xf_putG [(r106, .cells (List.replicate (pd - 1).toNat (.int .u8 0)).toArray 5 (0, 0))] _ r6 _ n3 _ (List.replicate (pd - 1).toNat 0) l3 (some ⟨r106, 0, none⟩) (pd - 1).toNat (pd - 1).toNat hO3 (by rw [show ints .u8 (List.replicate (pd - 1).toNat 0) = List.replicate (pd - 1).toNat (.int .u8 0) from by simp [ints]]; exact Rs.fresh (List.Mem.head _)) (by simp) (by omega) (by omega)) ?_))
        rintro v L' ⟨rfl, q4, k4, l4, hO4, rfl⟩
        refine xo_nil ?_
        refine xq_seq ?_
        refine xc_region ?_
        refine xo_rd (rd_move rfl) rfl ?_
        refine xo_rd (rd_fieldAddr rfl) rfl ?_
        refine xo_rd (rd_load1 rfl (hbx _ (by simp) _ _ rfl)) rfl ?_
        refine xo_ef rfl (ef_slice1 rfl rfl rfl fun r111 => ?_)
      focus
        refine xo_ef rfl (ef_callv rfl rfl (XF.mono (xf_putG [(r111, .cells #[.int .u8 pd] 5 (0, 0))] _ r6 _ _ _ [pd] l4 (some ⟨r111, 0, none⟩) 1 1 hO4 (Rs.fresh (List.Mem.head _)) rfl (by omega) (by omega)) ?_))
        rintro v L' ⟨rfl, q5, k5, l5, hO5, rfl⟩
        refine xo_nil ?_
        refine xq_seq ?_
        refine xc_seq ?_
        refine xc_region ?_
        refine xo_rd (rd_load1 rfl (Cl.o0 rfl)) rfl ?_
        refine xo_rd (rd_assign rfl) rfl ?_
        refine xo_rd (rd_assign rfl) rfl ?_
        refine xo_nil ?_
        refine xq_seq ?_
        refine xc_ret ?_
      have hT : tailL pd = List.replicate (pd - 1).toNat 0 ++ [pd] := by unfold tailL; rw [if_pos hpd]
      rw [hput _ hT]
      rw [List.append_assoc] at hO5
      have hle : (X3 ++ (List.replicate (pd - 1).toNat 0 ++ [pd])).length = n3 + (pd - 1).toNat + 1 := by have := hO5.len; rw [ints_len] at this; omega
      rw [hle]
      exact xq_sub (L' := l5 ++ L) ((List.Sublist.append_left (List.sublist_cons_self _ _) l5).trans (List.sublist_cons_self _ _)) (xq_ret2 (.inl rfl) Try.results19 rfl rfl ⟨q5, k5, l5, rfl, hO5, rfl⟩)
    · focus
        refine xc_seq ?_
        refine xc_seq ?_
        refine xc_region ?_
        refine xo_rd (rd_fieldAddr rfl) rfl ?_
        refine xo_rd (rd_load1 rfl (hbx _ (by simp) _ _ rfl)) rfl ?_
        refine xo_rd (rd_gtr rfl rfl) rfl ?_
        refine xo_nil ?_
        refine xq_seq ?_
        refine xc_dec rfl (fun hw1 => (by exfalso; omega)) (fun hw1 => ?_)
        refine xc_skip ?_
        refine xq_seq ?_
        refine xc_seq ?_
        refine xc_region ?_
        refine xo_rd (rd_load1 rfl (Cl.o0 rfl)) rfl ?_
        refine xo_rd (rd_assign rfl) rfl ?_
        refine xo_rd (rd_assign rfl) rfl ?_
        refine xo_nil ?_
        refine xq_seq ?_
        refine xc_ret ?_
      have hp0 : pd = 0 := by omega
      subst hp0
      rw [hput [] rfl, List.append_nil]
      have hle : X3.length = n3 := by have := hO3.len; rw [ints_len] at this; omega
      rw [hle]
      exact xq_sub (L' := l3 ++ L) ((List.Sublist.append_left (List.sublist_cons_self _ _) l3).trans (List.sublist_cons_self _ _)) (xq_ret2 (.inl rfl) Try.results19 rfl rfl ⟨q3, k3, l3, rfl, hO3, rfl⟩)
  · have hpu : putR q = ([], 2) := by unfold putR; rw [if_neg hR]
    rw [hpu]
    obtain ⟨mr, ty, sq, tm, ss, cs, hx, pf, ex, pl, pd⟩ := q
    dsimp only [Pk.enc]
    focus
      refine xc_seq ?_
      refine xc_region ?_
      refine xo_ef rfl (ef_box rfl fun r1 => ?_)
      refine xo_rd (rd_assign rfl) rfl ?_
      refine xo_rd (rd_assign rfl) rfl ?_
      refine xo_nil ?_
      refine xq_seq ?_
      refine xc_seq ?_
      refine xc_seq ?_
      refine xc_region ?_
      refine xo_rd (rd_loadB rfl Kn.o0 (by rfl)) rfl ?_
      refine xo_ef rfl (ef_call rfl (XF.mono (xf_rightF ⟨mr, ty, sq, tm, ss, cs, hx, pf, ex, pl, pd⟩ p1 p2 p3 c1 c2 c3 b1 b2 hR) ?_))
      rintro v L' ⟨rfl, rfl⟩
      refine xo_rd (rd_not rfl) rfl ?_
      refine xo_nil ?_
      refine xq_seq ?_
      refine xc_condt rfl ?_
      refine xc_seq ?_
      refine xc_region ?_
      refine xo_rd (rd_assign rfl) rfl ?_
      refine xo_rd (rd_assign rfl) rfl ?_
      refine xo_nil ?_
      refine xq_seq ?_
      refine xc_ret ?_
      refine xq_then_ret ?_
    exact xq_sub (List.sublist_cons_self _ _) (xq_ret2 (.inl rfl) Try.results19 rfl rfl ⟨none, 0, [], rfl, SlO.nil, rfl⟩)
end Go.Proofs.Ytpcmnbagalhjiaa.X
