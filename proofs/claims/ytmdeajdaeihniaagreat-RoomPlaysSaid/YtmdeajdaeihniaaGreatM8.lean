/-
  Texts of my own, put together: walks and laws for this seat. No condition.
-/
import Derived.Test.YtmdeajdaeihniaaGreatM6
import Derived.Test.YtmdeajdaeihniaaGreatM7
/-
  The reference's roster: walks of my own.
-/
namespace Go.Proofs.YtmdeajdaeihniaaGreat.X
open Go Go.RowKit
set_option linter.unusedVariables false
set_option linter.unusedSimpArgs false
theorem leave_filter (l : List Mb) (id : Int) (h : (l.map Mb.id).Nodup) : l.filter (fun m => decide (m.id ≠ id)) = leaveL l id := by
  unfold leaveL
  induction l with
  | nil => rfl
  | cons a l ih =>
    rw [List.map_cons, List.nodup_cons] at h
    by_cases e : a.id = id
    · subst e
      rw [List.filter_cons_of_neg (by simp), List.eraseP_cons_of_pos (by simp), List.filter_eq_self]
      intro m hm
      simp only [ne_eq, decide_not, Bool.not_eq_true', decide_eq_false_iff_not]
      exact fun e => h.1 (List.mem_map.2 ⟨m, hm, e⟩)
    · rw [List.filter_cons_of_pos (by simpa using e), List.eraseP_cons_of_neg (by simpa using e), ih h.2]
theorem xf_rnew_bad {W : World} {L : List Blk} (most : Int) (hs : most < 0 ∨ 32 < most) : XF Tryz.prog W 25 #[.int .i64 most] L (fun v L' => v = .tuple #[.agg #[.int .i64 0, .slice none 0 0], .int .i64 2] ∧ L' = L) := by
  refine xf_enter (args := [_]) Tryz.func25 rfl Tryz.ntmps25 rfl ?_
  focus
    refine xc_seq ?_
    refine xc_region ?_
    refine xo_ef rfl (ef_alloc fun r2 => ?_)
    refine xo_rd (rd_assign rfl) rfl ?_
    refine xo_nil ?_
    refine xq_seq ?_
    refine xc_seq ?_
    refine xc_seq ?_
    refine xc_region ?_
    refine xo_rd (rd_move rfl) rfl ?_
    refine xo_rd (rd_lss rfl rfl) rfl ?_
    refine xo_rd (rd_move rfl) rfl ?_
    refine xo_dec 6 rfl (fun h1 => ?_) (fun h1 => ?_)
    refine xo_gskip rfl rfl rfl rfl ?_
    refine xo_gskip rfl rfl rfl rfl ?_
    refine xo_rd (rd_pickt rfl rfl) rfl ?_
    refine xo_nil ?_
    refine xq_seq ?_
    refine xc_condt rfl ?_
    refine xc_seq ?_
    refine xc_region ?_
    refine xo_rd (rd_build rfl rfl rfl) rfl ?_
    refine xo_ef rfl (ef_storeB [] _ rfl rfl (by first | rfl | assumption) rfl rfl rfl ?_)
    refine xo_rd (rd_assign rfl) rfl ?_
    refine xo_nil ?_
    refine xq_seq ?_
    refine xc_ret ?_
    refine xq_then_ret ?_
    rotate_left
    refine xo_grd rfl rfl (rd_move rfl) rfl ?_
    refine xo_grd rfl rfl (rd_gtr rfl rfl) rfl ?_
    refine xo_rd (rd_pickf rfl rfl) rfl ?_
    refine xo_nil ?_
    refine xq_seq ?_
    refine xc_dec rfl (fun h2 => ?_) (fun h2 => (by exfalso; omega))
    refine xc_seq ?_
    refine xc_region ?_
    refine xo_rd (rd_build rfl rfl rfl) rfl ?_
    refine xo_ef rfl (ef_storeB [] _ rfl rfl (by first | rfl | assumption) rfl rfl rfl ?_)
    refine xo_rd (rd_assign rfl) rfl ?_
    refine xo_nil ?_
    refine xq_seq ?_
    refine xc_ret ?_
    refine xq_then_ret ?_
    rotate_left
  · exact xq_retB2 (.inl rfl) Tryz.results25 rfl rfl Kn.o0 rfl (List.sublist_cons_self _ _) ⟨rfl, rfl⟩
  · exact xq_retB2 (.inl rfl) Tryz.results25 rfl rfl Kn.o0 rfl (List.sublist_cons_self _ _) ⟨rfl, rfl⟩
theorem xf_rnew {W : World} {L : List Blk} (most : Int) (hs : 0 ≤ most ∧ most ≤ 32) : XF Tryz.prog W 25 #[.int .i64 most] L (fun v L' => v = .tuple #[.agg #[.int .i64 most, .slice none 0 0], .int .i64 0] ∧ L' = L) := by
  refine xf_enter (args := [_]) Tryz.func25 rfl Tryz.ntmps25 rfl ?_
  focus
    refine xc_seq ?_
    refine xc_region ?_
    refine xo_ef rfl (ef_alloc fun r2 => ?_)
    refine xo_rd (rd_assign rfl) rfl ?_
    refine xo_nil ?_
    refine xq_seq ?_
    refine xc_seq ?_
    refine xc_seq ?_
    refine xc_region ?_
    refine xo_rd (rd_move rfl) rfl ?_
    refine xo_rd (rd_lss rfl rfl) rfl ?_
    refine xo_rd (rd_move rfl) rfl ?_
    refine xo_dec 6 rfl (fun h1 => (by exfalso; omega)) (fun h1 => ?_)
    refine xo_grd rfl rfl (rd_move rfl) rfl ?_
    refine xo_grd rfl rfl (rd_gtr rfl rfl) rfl ?_
    refine xo_rd (rd_pickf rfl rfl) rfl ?_
    refine xo_nil ?_
    refine xq_seq ?_
    refine xc_dec rfl (fun h2 => (by exfalso; omega)) (fun h2 => ?_)
    refine xc_skip ?_
    refine xq_seq ?_
    refine xc_seq ?_
    refine xc_region ?_
    refine xo_rd (rd_move rfl) rfl ?_
    refine xo_rd (rd_build rfl rfl rfl) rfl ?_
    refine xo_ef rfl (ef_storeB [] _ rfl rfl (by first | rfl | assumption) rfl rfl rfl ?_)
    refine xo_rd (rd_assign rfl) rfl ?_
    refine xo_nil ?_
    refine xq_seq ?_
    refine xc_ret ?_
  exact xq_retB2 (.inl rfl) Tryz.results25 rfl rfl Kn.o0 rfl (List.sublist_cons_self _ _) ⟨rfl, rfl⟩
theorem xf_rget {W : World} {L : List Blk} (most : Int) (ms : List Mb) (p : Option Addr) (c : Nat) (hr : Rs W L p (ms.flatMap Mb.enc)) (hl : ms.length ≤ 1000) (id : Int) : XF Tryz.prog W 49 #[.agg #[.int .i64 most, .slice p ms.length c], .int .i64 id] L (fun v L' => v = .tuple #[.agg ((getId ms id).getD ⟨0, 0, 0, false⟩).enc.toArray, .bool (getId ms id).isSome] ∧ L' = L) := by
  refine xf_enter (args := [_, _]) Tryz.func49 rfl Tryz.ntmps49 rfl ?_
  focus
    refine xc_seq ?_
    refine xc_region ?_
    refine xo_ef rfl (ef_box rfl fun r2 => ?_)
    refine xo_ef rfl (ef_alloc fun r4 => ?_)
    refine xo_rd (rd_assign rfl) rfl ?_
    refine xo_nil ?_
    refine xq_seq ?_
    refine xc_seq ?_
    refine xc_seq ?_
    refine xc_region ?_
    refine xo_rd (rd_assign rfl) rfl ?_
    refine xo_nil ?_
    refine xq_seq ?_
    refine xc_block ?_
  refine xc_loopI (ι := Nat) (fun k => k ≤ ms.length ∧ getId (ms.drop k) id = getId ms id) (fun k => ms.length - k) (fun _ => (r4, .cells (Mb.mk 0 0 0 false).enc.toArray 88 (0, 0)) :: (r2, .cells #[.int .i64 most, .slice p ms.length c] 34 (0, 0)) :: L) (fun k => [(1, .int .i64 id), (2, .pointer (some ⟨r2, 0, none⟩)), (4, .pointer (some ⟨r4, 0, none⟩)), (5, .bool false), (6, .int .i64 k)]) 0 ⟨Nat.zero_le _, rfl⟩ rfl (by repeat (first | exact keep_nil | refine keep_cons rfl ?_)) ?_
  rintro k ⟨hk, hg⟩
  focus
    refine xc_seq ?_
    refine xc_seq ?_
    refine xc_region ?_
    refine xo_rd (rd_move rfl) rfl ?_
    refine xo_rd (rd_fieldAddr rfl) rfl ?_
    refine xo_rd (rd_load1 rfl (Cl.o1 rfl)) rfl ?_
    refine xo_rd (rd_len rfl) rfl ?_
    refine xo_rd (rd_lss rfl rfl) rfl ?_
    refine xo_nil ?_
    refine xq_seq ?_
    refine xc_dec rfl (fun hk1 => ?_) (fun hk1 => ?_)
    refine xc_skip ?_
    refine xq_seq ?_
    refine xc_seq ?_
    refine xc_block ?_
    refine xc_seq ?_
    refine xc_region ?_
    refine xo_rd (rd_fieldAddr rfl) rfl ?_
    refine xo_rd (rd_load1 rfl (Cl.o1 rfl)) rfl ?_
    refine xo_rd (rd_move rfl) rfl ?_
    rotate_left
    refine xc_exit ?_
    refine xq_then_exit ?_
    refine xq_then_exit ?_
    refine xq_block_hit ?_
    refine xq_seq ?_
    refine xc_seq ?_
    refine xc_region ?_
    refine xo_rd (rd_build rfl rfl rfl) rfl ?_
    refine xo_ef rfl (ef_storeB [] _ rfl rfl (by first | rfl | assumption) rfl rfl rfl ?_)
    refine xo_rd (rd_assign rfl) rfl ?_
    refine xo_nil ?_
    refine xq_seq ?_
    refine xc_ret ?_
    rotate_left
  · have hkn : k < ms.length := by omega
    obtain ⟨b1, o1, rfl, hc1⟩ := hr.row Mb.len (by decide) hkn
    have hd : ms.drop k = ms[k] :: ms.drop (k + 1) := List.drop_eq_getElem_cons hkn
    have hgk : getId (ms.drop k) id = if ms[k].id = id then some ms[k] else getId (ms.drop (k + 1)) id := by
      unfold getId
      rw [hd, List.find?_cons]
      by_cases e : ms[k].id = id
      · rw [if_pos e, show (ms[k].id == id) = true from by simpa using e]
      · rw [if_neg e, show (ms[k].id == id) = false from by simpa using e]
    rw [hg] at hgk
    focus
      refine xo_rd (rd_indexAddr rfl rfl (by omega) (by omega)) rfl ?_
      refine xo_rd (rd_fieldAddr rfl) rfl ?_
      refine xo_rd (rd_load1 rfl (hc1 0 _ rfl).skip.skip) rfl ?_
      refine xo_rd (rd_move rfl) rfl ?_
      refine xo_rd (rd_eql rfl rfl) rfl ?_
      refine xo_nil ?_
      refine xq_seq ?_
      refine xc_dec rfl (fun hz1 => ?_) (fun hz1 => ?_)
      refine xc_seq ?_
      refine xc_region ?_
      refine xo_rd (rd_fieldAddr rfl) rfl ?_
      refine xo_rd (rd_load1 rfl (Cl.o1 rfl)) rfl ?_
      refine xo_rd (rd_move rfl) rfl ?_
      refine xo_rd (rd_indexAddr rfl rfl (by omega) (by omega)) rfl ?_
      refine xo_rd (rd_loadA (vs := ms[k].enc) rfl rfl (fun j u hj => (hc1 j u hj).skip.skip)) rfl ?_
      refine xo_ef rfl (ef_storeB [] _ rfl rfl (by first | rfl | assumption) rfl rfl rfl ?_)
      refine xo_rd (rd_assign rfl) rfl ?_
      refine xo_nil ?_
      refine xq_seq ?_
      refine xc_ret ?_
      refine xq_block_ret ?_
      refine xq_then_ret ?_
      refine xq_then_ret ?_
      refine xq_block_ret ?_
      refine xq_then_ret ?_
      rotate_left
      refine xc_skip ?_
      refine xq_block ?_
      refine xq_seq ?_
      refine xc_region ?_
      refine xo_rd (rd_move rfl) rfl ?_
      refine xo_rd (rd_addn rfl rfl (by omega) (by omega)) rfl ?_
      refine xo_rd (rd_assign rfl) rfl ?_
      refine xo_nil ?_
      rotate_left
    · rw [if_pos hz1] at hgk
      exact xq_retB2 (.inl rfl) Tryz.results49 rfl rfl Kn.o0 rfl ((List.sublist_cons_self _ _).trans (List.sublist_cons_self _ _)) ⟨by rw [hgk]; rfl, rfl⟩
    · rw [if_neg hz1] at hgk
      exact xq_roundI (k + 1) ⟨by omega, hgk.symm⟩ (by omega) rfl (by repeat (first | exact keep_nil | refine keep_cons rfl ?_))
  · have hn : getId ms id = none := by rw [← hg, List.drop_eq_nil_of_le (by omega)]; rfl
    exact xq_retB2 (.inl rfl) Tryz.results49 rfl rfl Kn.o0 rfl ((List.sublist_cons_self _ _).trans (List.sublist_cons_self _ _)) ⟨by rw [hn]; rfl, rfl⟩
theorem xf_rsource {W : World} {L : List Blk} (most : Int) (ms : List Mb) (p : Option Addr) (c : Nat) (hr : Rs W L p (ms.flatMap Mb.enc)) (hl : ms.length ≤ 1000) (s : Int) : XF Tryz.prog W 47 #[.agg #[.int .i64 most, .slice p ms.length c], .int .u32 s] L (fun v L' => v = .tuple #[.agg ((getSrc ms s).getD ⟨0, 0, 0, false⟩).enc.toArray, .bool (decide ((getSrc ms s).map Mb.content = some s)), .bool (getSrc ms s).isSome] ∧ L' = L) := by
  refine xf_enter (args := [_, _]) Tryz.func47 rfl Tryz.ntmps47 rfl ?_
  focus
    refine xc_seq ?_
    refine xc_region ?_
    refine xo_ef rfl (ef_box rfl fun r2 => ?_)
    refine xo_ef rfl (ef_alloc fun r4 => ?_)
    refine xo_rd (rd_assign rfl) rfl ?_
    refine xo_rd (rd_assign rfl) rfl ?_
    refine xo_nil ?_
    refine xq_seq ?_
    refine xc_seq ?_
    refine xc_seq ?_
    refine xc_region ?_
    refine xo_rd (rd_assign rfl) rfl ?_
    refine xo_nil ?_
    refine xq_seq ?_
    refine xc_block ?_
  refine xc_loopI (ι := Nat) (fun k => k ≤ ms.length ∧ getSrc (ms.drop k) s = getSrc ms s) (fun k => ms.length - k) (fun _ => (r4, .cells (Mb.mk 0 0 0 false).enc.toArray 88 (0, 0)) :: (r2, .cells #[.int .i64 most, .slice p ms.length c] 34 (0, 0)) :: L) (fun k => [(1, .int .u32 s), (2, .pointer (some ⟨r2, 0, none⟩)), (4, .pointer (some ⟨r4, 0, none⟩)), (5, .bool false), (6, .bool false), (7, .int .i64 k)]) 0 ⟨Nat.zero_le _, rfl⟩ rfl (by repeat (first | exact keep_nil | refine keep_cons rfl ?_)) ?_
  rintro k ⟨hk, hg⟩
  focus
    refine xc_seq ?_
    refine xc_seq ?_
    refine xc_region ?_
    refine xo_rd (rd_move rfl) rfl ?_
    refine xo_rd (rd_fieldAddr rfl) rfl ?_
    refine xo_rd (rd_load1 rfl (Cl.o1 rfl)) rfl ?_
    refine xo_rd (rd_len rfl) rfl ?_
    refine xo_rd (rd_lss rfl rfl) rfl ?_
    refine xo_nil ?_
    refine xq_seq ?_
    refine xc_dec rfl (fun hk1 => ?_) (fun hk1 => ?_)
    refine xc_skip ?_
    refine xq_seq ?_
    refine xc_seq ?_
    refine xc_block ?_
    refine xc_seq ?_
    refine xc_region ?_
    refine xo_rd (rd_fieldAddr rfl) rfl ?_
    refine xo_rd (rd_load1 rfl (Cl.o1 rfl)) rfl ?_
    refine xo_rd (rd_move rfl) rfl ?_
    rotate_left
    refine xc_exit ?_
    refine xq_then_exit ?_
    refine xq_then_exit ?_
    refine xq_block_hit ?_
    refine xq_seq ?_
    refine xc_seq ?_
    refine xc_region ?_
    refine xo_rd (rd_build rfl rfl rfl) rfl ?_
    refine xo_ef rfl (ef_storeB [] _ rfl rfl (by first | rfl | assumption) rfl rfl rfl ?_)
    refine xo_rd (rd_assign rfl) rfl ?_
    refine xo_rd (rd_assign rfl) rfl ?_
    refine xo_nil ?_
    refine xq_seq ?_
    refine xc_ret ?_
    rotate_left
  · have hkn : k < ms.length := by omega
    obtain ⟨b1, o1, rfl, hc1⟩ := hr.row Mb.len (by decide) hkn
    have hd : ms.drop k = ms[k] :: ms.drop (k + 1) := List.drop_eq_getElem_cons hkn
    have hgk : getSrc (ms.drop k) s = if ms[k].content = s ∨ ms[k].camera = s then some ms[k] else getSrc (ms.drop (k + 1)) s := by
      unfold getSrc
      rw [hd, List.find?_cons]
      by_cases e : ms[k].content = s ∨ ms[k].camera = s
      · rw [if_pos e, show ms[k].src s = true from by simpa [Mb.src] using e]
      · rw [if_neg e, show ms[k].src s = false from by simpa [Mb.src] using e]
    rw [hg] at hgk
    focus
      refine xo_rd (rd_indexAddr rfl rfl (by omega) (by omega)) rfl ?_
      refine xo_rd (rd_fieldAddr rfl) rfl ?_
      refine xo_rd (rd_load1 rfl (hc1 1 _ rfl).skip.skip) rfl ?_
      refine xo_rd (rd_move rfl) rfl ?_
      refine xo_rd (rd_eql rfl rfl) rfl ?_
      refine xo_rd (rd_move rfl) rfl ?_
      refine xo_dec 23 rfl (fun hz1 => ?_) (fun hz1 => ?_)
      refine xo_gskip rfl rfl rfl rfl ?_
      refine xo_gskip rfl rfl rfl rfl ?_
      refine xo_gskip rfl rfl rfl rfl ?_
      refine xo_gskip rfl rfl rfl rfl ?_
      refine xo_gskip rfl rfl rfl rfl ?_
      refine xo_gskip rfl rfl rfl rfl ?_
      refine xo_gskip rfl rfl rfl rfl ?_
      refine xo_gskip rfl rfl rfl rfl ?_
      refine xo_rd (rd_pickt rfl rfl) rfl ?_
      refine xo_nil ?_
      refine xq_seq ?_
      refine xc_condt rfl ?_
      refine xc_seq ?_
      refine xc_drawM [0, 1, 0, 6, 8, 0, 32, 0, 192, 256, 512, 0, 3072, 31, 16383, 32767] [0, 1, 0, 6, 8, 0, 32, 0, 192, 256, 512, 0, 3072, 31, 16383, 32767] ((r2, .cells #[.int .i64 most, .slice (some ⟨b1, o1, none⟩) ms.length c] 34 (0, 0)) :: L) (by kernel_rfl) (by kernel_rfl) (by kernel_rfl) ?_
      refine xm_take 0 (m' := 1) rfl (by kernel_rfl) (by first | exact Sb.refl | exact Sb.nil | (repeat (first | exact Sb.nil | exact Sb.refl | exact Sb.app0 | apply Sb.keep | apply Sb.keepApp | apply Sb.cons | apply Sb.app))) (rd_fieldAddr rfl) rfl (by kernel_rfl) ?_
      refine xm_take 1 (m' := 3) rfl (by kernel_rfl) (by first | exact Sb.refl | exact Sb.nil | (repeat (first | exact Sb.nil | exact Sb.refl | exact Sb.app0 | apply Sb.keep | apply Sb.keepApp | apply Sb.cons | apply Sb.app))) (rd_load1 rfl (Cl.o0 rfl)) rfl (by kernel_rfl) ?_
      refine xm_take 2 (m' := 7) rfl (by kernel_rfl) (by first | exact Sb.refl | exact Sb.nil | (repeat (first | exact Sb.nil | exact Sb.refl | exact Sb.app0 | apply Sb.keep | apply Sb.keepApp | apply Sb.cons | apply Sb.app))) (rd_move rfl) rfl (by kernel_rfl) ?_
      refine xm_take 3 (m' := 15) rfl (by kernel_rfl) (by first | exact Sb.refl | exact Sb.nil | (repeat (first | exact Sb.nil | exact Sb.refl | exact Sb.app0 | apply Sb.keep | apply Sb.keepApp | apply Sb.cons | apply Sb.app))) (rd_indexAddr rfl rfl (by omega) (by omega)) rfl (by kernel_rfl) ?_
      refine xm_take 4 (m' := 31) rfl (by kernel_rfl) (by first | exact Sb.refl | exact Sb.nil | (repeat (first | exact Sb.nil | exact Sb.refl | exact Sb.app0 | apply Sb.keep | apply Sb.keepApp | apply Sb.cons | apply Sb.app))) (rd_loadA (vs := ms[k].enc) rfl rfl (fun j u hj => (hc1 j u hj).skip)) rfl (by kernel_rfl) ?_
      refine xm_take 5 (m' := 63) rfl (by kernel_rfl) (by first | exact Sb.refl | exact Sb.nil | (repeat (first | exact Sb.nil | exact Sb.refl | exact Sb.app0 | apply Sb.keep | apply Sb.keepApp | apply Sb.cons | apply Sb.app))) (rd_fieldAddr rfl) rfl (by kernel_rfl) ?_
      refine xm_take 6 (m' := 127) rfl (by kernel_rfl) (by first | exact Sb.refl | exact Sb.nil | (repeat (first | exact Sb.nil | exact Sb.refl | exact Sb.app0 | apply Sb.keep | apply Sb.keepApp | apply Sb.cons | apply Sb.app))) (rd_load1 rfl (Cl.o0 rfl)) rfl (by kernel_rfl) ?_
      refine xm_take 7 (m' := 255) rfl (by kernel_rfl) (by first | exact Sb.refl | exact Sb.nil | (repeat (first | exact Sb.nil | exact Sb.refl | exact Sb.app0 | apply Sb.keep | apply Sb.keepApp | apply Sb.cons | apply Sb.app))) (rd_move rfl) rfl (by kernel_rfl) ?_
      refine xm_take 8 (m' := 511) rfl (by kernel_rfl) (by first | exact Sb.refl | exact Sb.nil | (repeat (first | exact Sb.nil | exact Sb.refl | exact Sb.app0 | apply Sb.keep | apply Sb.keepApp | apply Sb.cons | apply Sb.app))) (rd_indexAddr rfl rfl (by omega) (by omega)) rfl (by kernel_rfl) ?_
      refine xm_take 9 (m' := 1023) rfl (by kernel_rfl) (by first | exact Sb.refl | exact Sb.nil | (repeat (first | exact Sb.nil | exact Sb.refl | exact Sb.app0 | apply Sb.keep | apply Sb.keepApp | apply Sb.cons | apply Sb.app))) (rd_fieldAddr rfl) rfl (by kernel_rfl) ?_
      refine xm_take 10 (m' := 2047) rfl (by kernel_rfl) (by first | exact Sb.refl | exact Sb.nil | (repeat (first | exact Sb.nil | exact Sb.refl | exact Sb.app0 | apply Sb.keep | apply Sb.keepApp | apply Sb.cons | apply Sb.app))) (rd_load1 rfl (hc1 1 _ rfl).skip) rfl (by kernel_rfl) ?_
      refine xm_take 11 (m' := 4095) rfl (by kernel_rfl) (by first | exact Sb.refl | exact Sb.nil | (repeat (first | exact Sb.nil | exact Sb.refl | exact Sb.app0 | apply Sb.keep | apply Sb.keepApp | apply Sb.cons | apply Sb.app))) (rd_move rfl) rfl (by kernel_rfl) ?_
      refine xm_take 12 (m' := 8191) rfl (by kernel_rfl) (by first | exact Sb.refl | exact Sb.nil | (repeat (first | exact Sb.nil | exact Sb.refl | exact Sb.app0 | apply Sb.keep | apply Sb.keepApp | apply Sb.cons | apply Sb.app))) (rd_eql rfl rfl) rfl (by kernel_rfl) ?_
      refine xm_one 13 (m' := 16383) rfl (by kernel_rfl) rfl (by kernel_rfl) (ef_storeB [] _ rfl rfl (by first | rfl | assumption) rfl rfl rfl ?_)
      refine ⟨(by first | exact Sb.refl | exact Sb.nil | (repeat (first | exact Sb.nil | exact Sb.refl | exact Sb.app0 | apply Sb.keep | apply Sb.keepApp | apply Sb.cons | apply Sb.app))), ?_⟩
      refine xm_take 14 (m' := 32767) rfl (by kernel_rfl) (by first | exact Sb.refl | exact Sb.nil | (repeat (first | exact Sb.nil | exact Sb.refl | exact Sb.app0 | apply Sb.keep | apply Sb.keepApp | apply Sb.cons | apply Sb.app))) (rd_assign rfl) rfl (by kernel_rfl) ?_
      refine xm_take 15 (m' := 65535) rfl (by kernel_rfl) (by first | exact Sb.refl | exact Sb.nil | (repeat (first | exact Sb.nil | exact Sb.refl | exact Sb.app0 | apply Sb.keep | apply Sb.keepApp | apply Sb.cons | apply Sb.app))) (rd_assign rfl) rfl (by kernel_rfl) ?_
      refine xm_done (by kernel_rfl) ?_
      refine xq_seq ?_
      refine xc_ret ?_
      refine xq_block_ret ?_
      refine xq_then_ret ?_
      refine xq_then_ret ?_
      refine xq_block_ret ?_
      refine xq_then_ret ?_
      rotate_left
      refine xo_grd rfl rfl (rd_fieldAddr rfl) rfl ?_
      refine xo_grd rfl rfl (rd_load1 rfl (Cl.o1 rfl)) rfl ?_
      refine xo_grd rfl rfl (rd_move rfl) rfl ?_
      refine xo_grd rfl rfl (rd_indexAddr rfl rfl (by omega) (by omega)) rfl ?_
      refine xo_grd rfl rfl (rd_fieldAddr rfl) rfl ?_
      refine xo_grd rfl rfl (rd_load1 rfl (hc1 2 _ rfl).skip.skip) rfl ?_
      refine xo_grd rfl rfl (rd_move rfl) rfl ?_
      refine xo_grd rfl rfl (rd_eql rfl rfl) rfl ?_
      refine xo_rd (rd_pickf rfl rfl) rfl ?_
      refine xo_nil ?_
      refine xq_seq ?_
      refine xc_dec rfl (fun hz2 => ?_) (fun hz2 => ?_)
      refine xc_seq ?_
      refine xc_drawM [0, 1, 0, 6, 8, 0, 32, 0, 192, 256, 512, 0, 3072, 31, 16383, 32767] [0, 1, 0, 6, 8, 0, 32, 0, 192, 256, 512, 0, 3072, 31, 16383, 32767] ((r2, .cells #[.int .i64 most, .slice (some ⟨b1, o1, none⟩) ms.length c] 34 (0, 0)) :: L) (by kernel_rfl) (by kernel_rfl) (by kernel_rfl) ?_
      refine xm_take 0 (m' := 1) rfl (by kernel_rfl) (by first | exact Sb.refl | exact Sb.nil | (repeat (first | exact Sb.nil | exact Sb.refl | exact Sb.app0 | apply Sb.keep | apply Sb.keepApp | apply Sb.cons | apply Sb.app))) (rd_fieldAddr rfl) rfl (by kernel_rfl) ?_
      refine xm_take 1 (m' := 3) rfl (by kernel_rfl) (by first | exact Sb.refl | exact Sb.nil | (repeat (first | exact Sb.nil | exact Sb.refl | exact Sb.app0 | apply Sb.keep | apply Sb.keepApp | apply Sb.cons | apply Sb.app))) (rd_load1 rfl (Cl.o0 rfl)) rfl (by kernel_rfl) ?_
      refine xm_take 2 (m' := 7) rfl (by kernel_rfl) (by first | exact Sb.refl | exact Sb.nil | (repeat (first | exact Sb.nil | exact Sb.refl | exact Sb.app0 | apply Sb.keep | apply Sb.keepApp | apply Sb.cons | apply Sb.app))) (rd_move rfl) rfl (by kernel_rfl) ?_
      refine xm_take 3 (m' := 15) rfl (by kernel_rfl) (by first | exact Sb.refl | exact Sb.nil | (repeat (first | exact Sb.nil | exact Sb.refl | exact Sb.app0 | apply Sb.keep | apply Sb.keepApp | apply Sb.cons | apply Sb.app))) (rd_indexAddr rfl rfl (by omega) (by omega)) rfl (by kernel_rfl) ?_
      refine xm_take 4 (m' := 31) rfl (by kernel_rfl) (by first | exact Sb.refl | exact Sb.nil | (repeat (first | exact Sb.nil | exact Sb.refl | exact Sb.app0 | apply Sb.keep | apply Sb.keepApp | apply Sb.cons | apply Sb.app))) (rd_loadA (vs := ms[k].enc) rfl rfl (fun j u hj => (hc1 j u hj).skip)) rfl (by kernel_rfl) ?_
      refine xm_take 5 (m' := 63) rfl (by kernel_rfl) (by first | exact Sb.refl | exact Sb.nil | (repeat (first | exact Sb.nil | exact Sb.refl | exact Sb.app0 | apply Sb.keep | apply Sb.keepApp | apply Sb.cons | apply Sb.app))) (rd_fieldAddr rfl) rfl (by kernel_rfl) ?_
      refine xm_take 6 (m' := 127) rfl (by kernel_rfl) (by first | exact Sb.refl | exact Sb.nil | (repeat (first | exact Sb.nil | exact Sb.refl | exact Sb.app0 | apply Sb.keep | apply Sb.keepApp | apply Sb.cons | apply Sb.app))) (rd_load1 rfl (Cl.o0 rfl)) rfl (by kernel_rfl) ?_
      refine xm_take 7 (m' := 255) rfl (by kernel_rfl) (by first | exact Sb.refl | exact Sb.nil | (repeat (first | exact Sb.nil | exact Sb.refl | exact Sb.app0 | apply Sb.keep | apply Sb.keepApp | apply Sb.cons | apply Sb.app))) (rd_move rfl) rfl (by kernel_rfl) ?_
      refine xm_take 8 (m' := 511) rfl (by kernel_rfl) (by first | exact Sb.refl | exact Sb.nil | (repeat (first | exact Sb.nil | exact Sb.refl | exact Sb.app0 | apply Sb.keep | apply Sb.keepApp | apply Sb.cons | apply Sb.app))) (rd_indexAddr rfl rfl (by omega) (by omega)) rfl (by kernel_rfl) ?_
      refine xm_take 9 (m' := 1023) rfl (by kernel_rfl) (by first | exact Sb.refl | exact Sb.nil | (repeat (first | exact Sb.nil | exact Sb.refl | exact Sb.app0 | apply Sb.keep | apply Sb.keepApp | apply Sb.cons | apply Sb.app))) (rd_fieldAddr rfl) rfl (by kernel_rfl) ?_
      refine xm_take 10 (m' := 2047) rfl (by kernel_rfl) (by first | exact Sb.refl | exact Sb.nil | (repeat (first | exact Sb.nil | exact Sb.refl | exact Sb.app0 | apply Sb.keep | apply Sb.keepApp | apply Sb.cons | apply Sb.app))) (rd_load1 rfl (hc1 1 _ rfl).skip) rfl (by kernel_rfl) ?_
      refine xm_take 11 (m' := 4095) rfl (by kernel_rfl) (by first | exact Sb.refl | exact Sb.nil | (repeat (first | exact Sb.nil | exact Sb.refl | exact Sb.app0 | apply Sb.keep | apply Sb.keepApp | apply Sb.cons | apply Sb.app))) (rd_move rfl) rfl (by kernel_rfl) ?_
      refine xm_take 12 (m' := 8191) rfl (by kernel_rfl) (by first | exact Sb.refl | exact Sb.nil | (repeat (first | exact Sb.nil | exact Sb.refl | exact Sb.app0 | apply Sb.keep | apply Sb.keepApp | apply Sb.cons | apply Sb.app))) (rd_eql rfl rfl) rfl (by kernel_rfl) ?_
      refine xm_one 13 (m' := 16383) rfl (by kernel_rfl) rfl (by kernel_rfl) (ef_storeB [] _ rfl rfl (by first | rfl | assumption) rfl rfl rfl ?_)
      refine ⟨(by first | exact Sb.refl | exact Sb.nil | (repeat (first | exact Sb.nil | exact Sb.refl | exact Sb.app0 | apply Sb.keep | apply Sb.keepApp | apply Sb.cons | apply Sb.app))), ?_⟩
      refine xm_take 14 (m' := 32767) rfl (by kernel_rfl) (by first | exact Sb.refl | exact Sb.nil | (repeat (first | exact Sb.nil | exact Sb.refl | exact Sb.app0 | apply Sb.keep | apply Sb.keepApp | apply Sb.cons | apply Sb.app))) (rd_assign rfl) rfl (by kernel_rfl) ?_
      refine xm_take 15 (m' := 65535) rfl (by kernel_rfl) (by first | exact Sb.refl | exact Sb.nil | (repeat (first | exact Sb.nil | exact Sb.refl | exact Sb.app0 | apply Sb.keep | apply Sb.keepApp | apply Sb.cons | apply Sb.app))) (rd_assign rfl) rfl (by kernel_rfl) ?_
      refine xm_done (by kernel_rfl) ?_
      refine xq_seq ?_
      refine xc_ret ?_
      refine xq_block_ret ?_
      refine xq_then_ret ?_
      refine xq_then_ret ?_
      refine xq_block_ret ?_
      refine xq_then_ret ?_
      rotate_left
      refine xc_skip ?_
      refine xq_block ?_
      refine xq_seq ?_
      refine xc_region ?_
      refine xo_rd (rd_move rfl) rfl ?_
      refine xo_rd (rd_addn rfl rfl (by omega) (by omega)) rfl ?_
      refine xo_rd (rd_assign rfl) rfl ?_
      refine xo_nil ?_
      rotate_left
    · rw [if_pos (.inl hz1)] at hgk
      exact xq_retB3 (.inl rfl) Tryz.results47 rfl rfl rfl Kn.o0 rfl ((List.sublist_cons_self _ _).trans (List.sublist_cons_self _ _)) ⟨by rw [hgk]; simp, rfl⟩
    · rw [if_pos (.inr hz2)] at hgk
      exact xq_retB3 (.inl rfl) Tryz.results47 rfl rfl rfl Kn.o0 rfl ((List.sublist_cons_self _ _).trans (List.sublist_cons_self _ _)) ⟨by rw [hgk]; simp, rfl⟩
    · rw [if_neg (by rintro (h | h); exact hz1 h; exact hz2 h)] at hgk
      exact xq_roundI (k + 1) ⟨by omega, hgk.symm⟩ (by omega) rfl (by repeat (first | exact keep_nil | refine keep_cons rfl ?_))
  · have hn : getSrc ms s = none := by rw [← hg, List.drop_eq_nil_of_le (by omega)]; rfl
    exact xq_retB3 (.inl rfl) Tryz.results47 rfl rfl rfl Kn.o0 rfl ((List.sublist_cons_self _ _).trans (List.sublist_cons_self _ _)) ⟨by rw [hn]; rfl, rfl⟩
theorem xf_rleave {W : World} {L : List Blk} (L0 : List Blk) (most : Int) (ms : List Mb) (p : Option Addr) (c : Nat) (hr0 : Rs W L0 p (ms.flatMap Mb.enc)) (hs : ∀ z, z ∈ L0 → z ∈ L) (hn : (ms.map Mb.id).Nodup) (hl : ms.length ≤ 1000) (id : Int) : XF Tryz.prog W 69 #[.agg #[.int .i64 most, .slice p ms.length c], .int .i64 id] L (fun v L' => ∃ p' c' lo, v = .tuple #[.agg #[.int .i64 most, .slice p' (leaveL ms id).length c'], .int .i64 (leaveR ms id)] ∧ L' = lo ++ L ∧ Rs W (lo ++ L0) p' ((leaveL ms id).flatMap Mb.enc)) := by
  have hr := hr0.mono hs
  refine xf_enter (args := [_, _]) Tryz.func69 rfl Tryz.ntmps69 rfl ?_
  have hlc : (ms.take 0).filter (fun m => decide (m.id ≠ id)) = [] := rfl
  focus
    refine xc_seq ?_
    refine xc_region ?_
    refine xo_ef rfl (ef_box rfl fun r2 => ?_)
    refine xo_ef rfl (ef_alloc fun r4 => ?_)
    refine xo_rd (rd_assign rfl) rfl ?_
    refine xo_nil ?_
    refine xq_seq ?_
    refine xc_seq ?_
    refine xc_region ?_
    refine xo_rd (rd_assign rfl) rfl ?_
    refine xo_nil ?_
    refine xq_seq ?_
    refine xc_seq ?_
    refine xc_seq ?_
    refine xc_region ?_
    refine xo_rd (rd_assign rfl) rfl ?_
    refine xo_nil ?_
    refine xq_seq ?_
    refine xc_block ?_
  refine xc_loopI (ι := Nat × Value × List Blk) (fun s => s.1 ≤ ms.length ∧ SlO 4 88 s.2.1 ((ms.take s.1).filter (fun m => decide (m.id ≠ id))).length (((ms.take s.1).filter (fun m => decide (m.id ≠ id))).flatMap Mb.enc) s.2.2) (fun s => ms.length - s.1) (fun s => (r4, .cells #[.int .i64 0, .slice none 0 0] 34 (0, 0)) :: (r2, .cells #[.int .i64 most, .slice p ms.length c] 34 (0, 0)) :: (s.2.2 ++ L)) (fun s => [(1, .int .i64 id), (2, .pointer (some ⟨r2, 0, none⟩)), (4, .pointer (some ⟨r4, 0, none⟩)), (5, .int .i64 0), (6, s.2.1), (7, .int .i64 s.1)]) (0, .slice none 0 0, []) ⟨Nat.zero_le _, by dsimp only; rw [hlc]; exact SlO.nil⟩ rfl (by repeat (first | exact keep_nil | refine keep_cons rfl ?_)) ?_
  rintro ⟨k, v, lo⟩ ⟨hk, hOo⟩
  dsimp only at hk hOo ⊢
  have hfl : ((ms.take k).filter (fun m => decide (m.id ≠ id))).length ≤ k := by
    have h1 := List.length_filter_le (fun m : Mb => decide (m.id ≠ id)) (ms.take k)
    rw [List.length_take] at h1
    omega
  focus
    refine xc_seq ?_
    refine xc_seq ?_
    refine xc_region ?_
    refine xo_rd (rd_move rfl) rfl ?_
    refine xo_rd (rd_fieldAddr rfl) rfl ?_
    refine xo_rd (rd_load1 rfl (Cl.o1 rfl)) rfl ?_
    refine xo_rd (rd_len rfl) rfl ?_
    refine xo_rd (rd_lss rfl rfl) rfl ?_
    refine xo_nil ?_
    refine xq_seq ?_
    refine xc_dec rfl (fun hk1 => ?_) (fun hk1 => ?_)
    refine xc_skip ?_
    refine xq_seq ?_
    refine xc_seq ?_
    refine xc_block ?_
    refine xc_seq ?_
    refine xc_region ?_
    refine xo_rd (rd_fieldAddr rfl) rfl ?_
    refine xo_rd (rd_load1 rfl (Cl.o1 rfl)) rfl ?_
    refine xo_rd (rd_move rfl) rfl ?_
    rotate_left
    refine xc_exit ?_
    refine xq_then_exit ?_
    refine xq_then_exit ?_
    rotate_left
  · have hkn : k < ms.length := by omega
    obtain ⟨b1, o1, rfl, hc1⟩ := hr.row Mb.len (by decide) hkn
    have ht : ms.take (k + 1) = ms.take k ++ [ms[k]] := by
      rw [List.take_add_one, List.getElem?_eq_getElem hkn]; rfl
    focus
      refine xo_rd (rd_indexAddr rfl rfl (by omega) (by omega)) rfl ?_
      refine xo_rd (rd_fieldAddr rfl) rfl ?_
      refine xo_rd (rd_load1 rfl (hc1 0 _ rfl).app.skip.skip) rfl ?_
      refine xo_rd (rd_move rfl) rfl ?_
      refine xo_rd (rd_neq rfl rfl) rfl ?_
      refine xo_nil ?_
      refine xq_seq ?_
      refine xc_ndec rfl (fun hz1 => ?_) (fun hz1 => ?_)
      refine xc_region ?_
      refine xo_rd (rd_move rfl) rfl ?_
      refine xo_rd (rd_fieldAddr rfl) rfl ?_
      refine xo_rd (rd_load1 rfl (Cl.o1 rfl)) rfl ?_
      refine xo_rd (rd_move rfl) rfl ?_
      refine xo_rd (rd_indexAddr rfl rfl (by omega) (by omega)) rfl ?_
      rotate_left
      refine xc_skip ?_
      refine xq_block ?_
      refine xq_seq ?_
      refine xc_region ?_
      refine xo_rd (rd_move rfl) rfl ?_
      refine xo_rd (rd_addn rfl rfl (by omega) (by omega)) rfl ?_
      refine xo_rd (rd_assign rfl) rfl ?_
      refine xo_nil ?_
      rotate_left
    · have hf1 : (ms.take (k + 1)).filter (fun m => decide (m.id ≠ id)) = (ms.take k).filter (fun m => decide (m.id ≠ id)) ++ [ms[k]] := by
        rw [ht, List.filter_append, List.filter_cons_of_pos (by simpa using hz1), List.filter_nil]
      focus
        refine xo_rd (rd_loadA (vs := ms[k].enc) rfl rfl (fun j u hj => (hc1 j u hj).app.skip.skip)) rfl ?_
        refine xo_ef rfl (ef_sliceA (vs := ms[k].enc) rfl rfl (by rw [Mb.len]; decide) (by rw [Mb.len]; decide) fun r29 => ?_)
      refine xo_ef rfl (ef_append [_, _, _] _ lo rfl rfl hOo rfl (Rs.fresh (List.Mem.head _)) rfl rfl (by decide) (by omega) (by omega) fun v3 lo' hO3 => ?_)
      refine xo_tail ?_
      focus
        refine xo_rd (rd_assign rfl) rfl ?_
        refine xo_nil ?_
        refine xq_block ?_
        refine xq_seq ?_
        refine xc_region ?_
        refine xo_rd (rd_move rfl) rfl ?_
        refine xo_rd (rd_addn rfl rfl (by omega) (by omega)) rfl ?_
        refine xo_rd (rd_assign rfl) rfl ?_
        refine xo_nil ?_
      exact xq_roundI (k + 1, v3, lo') ⟨by dsimp only; omega, by dsimp only; rw [hf1, List.flatMap_append, List.length_append]; simpa using hO3⟩ (by dsimp only; omega) rfl (by repeat (first | exact keep_nil | refine keep_cons rfl ?_))
    · have hf1 : (ms.take (k + 1)).filter (fun m => decide (m.id ≠ id)) = (ms.take k).filter (fun m => decide (m.id ≠ id)) := by
        rw [ht, List.filter_append, List.filter_cons_of_neg (by simpa using hz1), List.filter_nil, List.append_nil]
      exact xq_roundI (k + 1, v, lo) ⟨by dsimp only; omega, by dsimp only; rw [hf1]; exact hOo⟩ (by dsimp only; omega) rfl (by repeat (first | exact keep_nil | refine keep_cons rfl ?_))
  · have hkn : k = ms.length := by omega
    subst hkn
    rw [List.take_length, leave_filter _ _ hn] at hOo
    obtain ⟨po, ko, rfl, hOo, _⟩ := hOo.opn
    rcases ix_cases ms id with ⟨_, hg, hlv⟩ | ⟨i, hi, _, hg, _, hlv⟩
    · have hE : leaveR ms id = 130 := by unfold leaveR; rw [hg]; rfl
      rw [hE, hlv]
      rw [hlv] at hOo
      focus
        refine xq_block_hit ?_
        refine xq_seq ?_
        refine xc_seq ?_
        refine xc_seq ?_
        refine xc_region ?_
        refine xo_rd (rd_move rfl) rfl ?_
        refine xo_rd (rd_len rfl) rfl ?_
        refine xo_rd (rd_fieldAddr rfl) rfl ?_
        refine xo_rd (rd_load1 rfl (Cl.o1 rfl)) rfl ?_
        refine xo_rd (rd_len rfl) rfl ?_
        refine xo_rd (rd_eql rfl rfl) rfl ?_
        refine xo_nil ?_
        refine xq_seq ?_
        refine xc_dec rfl (fun _ => ?_) (fun h => absurd rfl h)
        refine xc_seq ?_
        refine xc_region ?_
        refine xo_rd (rd_loadB rfl Kn.o1 (by rfl)) rfl ?_
        refine xo_ef rfl (ef_storeB [] _ rfl rfl (by first | rfl | assumption) rfl rfl rfl ?_)
        refine xo_rd (rd_assign rfl) rfl ?_
        refine xo_nil ?_
        refine xq_seq ?_
        refine xc_ret ?_
        refine xq_then_ret ?_
      exact xq_retB2 (.inl rfl) Tryz.results69 rfl rfl Kn.o0 rfl ((List.sublist_append_right _ _).trans ((List.sublist_cons_self _ _).trans (List.sublist_cons_self _ _))) ⟨p, c, [], rfl, rfl, hr0⟩
    · have hE : leaveR ms id = 0 := by unfold leaveR; rw [hg]; rfl
      have hlen : (leaveL ms id).length + 1 = ms.length := by rw [hlv, List.length_eraseIdx, if_pos hi]; omega
      rw [hE]
      focus
        refine xq_block_hit ?_
        refine xq_seq ?_
        refine xc_seq ?_
        refine xc_seq ?_
        refine xc_region ?_
        refine xo_rd (rd_move rfl) rfl ?_
        refine xo_rd (rd_len rfl) rfl ?_
        refine xo_rd (rd_fieldAddr rfl) rfl ?_
        refine xo_rd (rd_load1 rfl (Cl.o1 rfl)) rfl ?_
        refine xo_rd (rd_len rfl) rfl ?_
        refine xo_rd (rd_eql rfl rfl) rfl ?_
        refine xo_nil ?_
        refine xq_seq ?_
        refine xc_dec rfl (fun h1 => (by exfalso; omega)) (fun h1 => ?_)
        refine xc_skip ?_
        refine xq_seq ?_
        refine xc_seq ?_
        refine xc_region ?_
        refine xo_rd (rd_fieldAddr rfl) rfl ?_
        refine xo_rd (rd_load1 rfl (Cl.o1 rfl)) rfl ?_
        refine xo_rd (rd_move rfl) rfl ?_
        refine xo_rd (rd_build rfl rfl rfl) rfl ?_
        refine xo_ef rfl (ef_storeB [] _ rfl rfl (by first | rfl | assumption) rfl rfl rfl ?_)
        refine xo_rd (rd_assign rfl) rfl ?_
        refine xo_nil ?_
        refine xq_seq ?_
        refine xc_ret ?_
      exact xq_retB2 (.inl rfl) Tryz.results69 rfl rfl Kn.o0 rfl ((List.sublist_cons_self _ _).trans (List.sublist_cons_self _ _)) ⟨po, ko, lo, rfl, rfl, hOo.rs (by intro z hz; simp [hz])⟩
theorem xf_rjoin {W : World} {L : List Blk} (L0 : List Blk) (most : Int) (ms : List Mb) (p : Option Addr) (c : Nat) (hr0 : Rs W L0 p (ms.flatMap Mb.enc)) (hs : ∀ z, z ∈ L0 → z ∈ L) (hl : ms.length ≤ 1000) (m : Mb) : XF Tryz.prog W 67 #[.agg #[.int .i64 most, .slice p ms.length c], .agg m.enc.toArray] L (fun v L' => ∃ p' c' lo, v = .tuple #[.agg #[.int .i64 most, .slice p' (joinL most ms m).length c'], .int .i64 (joinR most ms m)] ∧ L' = lo ++ L ∧ Rs W (lo ++ L0) p' ((joinL most ms m).flatMap Mb.enc)) := by
  have keep : ∀ e, joinR most ms m = e → e ≠ 0 → (∃ p' c' lo, (Value.tuple #[.agg #[.int .i64 most, .slice p ms.length c], .int .i64 e]) = .tuple #[.agg #[.int .i64 most, .slice p' (joinL most ms m).length c'], .int .i64 (joinR most ms m)] ∧ L = lo ++ L ∧ Rs W (lo ++ L0) p' ((joinL most ms m).flatMap Mb.enc)) := fun e he h0 => by
    have hJ : joinL most ms m = ms := by unfold joinL; rw [he, if_neg h0]
    rw [he, hJ]
    exact ⟨p, c, [], rfl, rfl, hr0⟩
  have hr := hr0.mono hs
  refine xf_enter (args := [_, _]) Tryz.func67 rfl Tryz.ntmps67 rfl ?_
  by_cases hr' : m.right
  · have hr2 := hr'
    unfold Mb.right at hr2
    have q1 : ¬ m.id < 0 := fun h => hr2 (.inl h)
    have q2 : ¬ m.content = 0 := fun h => hr2 (.inr (.inl h))
    have q3 : ¬ m.camera = 0 := fun h => hr2 (.inr (.inr (.inl h)))
    have q4 : ¬ m.content = m.camera := fun h => hr2 (.inr (.inr (.inr h)))
    focus
      refine xc_seq ?_
      refine xc_region ?_
      refine xo_ef rfl (ef_box rfl fun r2 => ?_)
      refine xo_ef rfl (ef_box rfl fun r3 => ?_)
      refine xo_ef rfl (ef_alloc fun r4 => ?_)
      refine xo_rd (rd_assign rfl) rfl ?_
      refine xo_nil ?_
      refine xq_seq ?_
      refine xc_seq ?_
      refine xc_seq ?_
      refine xc_region ?_
      refine xo_rd (rd_fieldAddr rfl) rfl ?_
      refine xo_rd (rd_load1 rfl (Cl.o1 rfl)) rfl ?_
      refine xo_rd (rd_lss rfl rfl) rfl ?_
      refine xo_rd (rd_move rfl) rfl ?_
      refine xo_dec 18 rfl (fun hj1 => (by exfalso; omega)) (fun hj1 => ?_)
      refine xo_grd rfl rfl (rd_fieldAddr rfl) rfl ?_
      refine xo_grd rfl rfl (rd_load1 rfl (Cl.o1 rfl)) rfl ?_
      refine xo_grd rfl rfl (rd_eql rfl rfl) rfl ?_
      refine xo_rd (rd_pickf rfl rfl) rfl ?_
      refine xo_rd (rd_move rfl) rfl ?_
      refine xo_dec 23 rfl (fun hj2 => (by exfalso; omega)) (fun hj2 => ?_)
      refine xo_grd rfl rfl (rd_fieldAddr rfl) rfl ?_
      refine xo_grd rfl rfl (rd_load1 rfl (Cl.o1 rfl)) rfl ?_
      refine xo_grd rfl rfl (rd_eql rfl rfl) rfl ?_
      refine xo_rd (rd_pickf rfl rfl) rfl ?_
      refine xo_rd (rd_move rfl) rfl ?_
      refine xo_dec 28 rfl (fun hj3 => (by exfalso; omega)) (fun hj3 => ?_)
      refine xo_grd rfl rfl (rd_fieldAddr rfl) rfl ?_
      refine xo_grd rfl rfl (rd_load1 rfl (Cl.o1 rfl)) rfl ?_
      refine xo_grd rfl rfl (rd_fieldAddr rfl) rfl ?_
      refine xo_grd rfl rfl (rd_load1 rfl (Cl.o1 rfl)) rfl ?_
      refine xo_grd rfl rfl (rd_eql rfl rfl) rfl ?_
      refine xo_rd (rd_pickf rfl rfl) rfl ?_
      refine xo_nil ?_
      refine xq_seq ?_
      refine xc_dec rfl (fun hj4 => (by exfalso; omega)) (fun hj4 => ?_)
      refine xc_skip ?_
      refine xq_seq ?_
      refine xc_seq ?_
      refine xc_region ?_
      refine xo_rd (rd_loadB rfl Kn.o2 (by rfl)) rfl ?_
      refine xo_rd (rd_fieldAddr rfl) rfl ?_
      refine xo_rd (rd_load1 rfl (Cl.o1 rfl)) rfl ?_
      refine xo_ef rfl (ef_call rfl (XF.mono (xf_rget most ms p c (hr.mono (by intro z hz; simp [hz])) hl m.id) ?_))
      rintro v L' ⟨rfl, rfl⟩
      refine xo_rd (rd_move rfl) rfl ?_
      refine xo_rd (rd_extract rfl rfl) rfl ?_
      refine xo_rd (rd_extract rfl rfl) rfl ?_
      refine xo_ef rfl (ef_alloc fun r6 => ?_)
      refine xo_ef rfl (ef_storeB [] _ rfl rfl (by first | rfl | assumption) rfl rfl rfl ?_)
      refine xo_rd (rd_assign rfl) rfl ?_
      refine xo_nil ?_
      refine xq_seq ?_
      refine xc_seq ?_
      refine xc_seq ?_
      refine xc_region ?_
      refine xo_rd (rd_move rfl) rfl ?_
      refine xo_nil ?_
      refine xq_seq ?_
      refine xc_cond rfl (fun hj5 => ?_) (fun hj5 => ?_)
      refine xc_seq ?_
      refine xc_region ?_
      refine xo_rd (rd_loadB rfl Kn.o3 (by rfl)) rfl ?_
      refine xo_ef rfl (ef_storeB [_] _ rfl rfl (by first | rfl | assumption) rfl rfl rfl ?_)
      refine xo_rd (rd_assign rfl) rfl ?_
      refine xo_nil ?_
      refine xq_seq ?_
      refine xc_ret ?_
      refine xq_then_ret ?_
      rotate_left
      refine xc_skip ?_
      refine xq_seq ?_
      refine xc_seq ?_
      refine xc_region ?_
      refine xo_rd (rd_loadB rfl Kn.o3 (by rfl)) rfl ?_
      refine xo_rd (rd_fieldAddr rfl) rfl ?_
      refine xo_rd (rd_load1 rfl (Cl.o2 rfl)) rfl ?_
      refine xo_ef rfl (ef_call rfl (XF.mono (xf_rsource most ms p c (hr.mono (by intro z hz; simp [hz])) hl m.content) ?_))
      rintro v L' ⟨rfl, rfl⟩
      refine xo_rd (rd_move rfl) rfl ?_
      refine xo_rd (rd_extract rfl rfl) rfl ?_
      refine xo_rd (rd_extract rfl rfl) rfl ?_
      refine xo_rd (rd_extract rfl rfl) rfl ?_
      refine xo_ef rfl (ef_alloc fun r8 => ?_)
      refine xo_ef rfl (ef_storeB [] _ rfl rfl (by first | rfl | assumption) rfl rfl rfl ?_)
      refine xo_rd (rd_assign rfl) rfl ?_
      refine xo_rd (rd_assign rfl) rfl ?_
      refine xo_nil ?_
      refine xq_seq ?_
      refine xc_seq ?_
      refine xc_region ?_
      refine xo_rd (rd_loadB rfl Kn.o4 (by rfl)) rfl ?_
      refine xo_rd (rd_fieldAddr rfl) rfl ?_
      refine xo_rd (rd_load1 rfl (Cl.o3 rfl)) rfl ?_
      refine xo_ef rfl (ef_call rfl (XF.mono (xf_rsource most ms p c (hr.mono (by intro z hz; simp [hz])) hl m.camera) ?_))
      rintro v L' ⟨rfl, rfl⟩
      refine xo_rd (rd_move rfl) rfl ?_
      refine xo_rd (rd_extract rfl rfl) rfl ?_
      refine xo_rd (rd_extract rfl rfl) rfl ?_
      refine xo_rd (rd_extract rfl rfl) rfl ?_
      refine xo_ef rfl (ef_alloc fun r11 => ?_)
      refine xo_ef rfl (ef_storeB [] _ rfl rfl (by first | rfl | assumption) rfl rfl rfl ?_)
      refine xo_rd (rd_assign rfl) rfl ?_
      refine xo_rd (rd_assign rfl) rfl ?_
      refine xo_nil ?_
      refine xq_seq ?_
      refine xc_seq ?_
      refine xc_seq ?_
      refine xc_region ?_
      refine xo_rd (rd_move rfl) rfl ?_
      refine xo_rd (rd_move rfl) rfl ?_
      refine xo_split 62 rfl (fun hj6 => ?_) (fun hj6 => ?_)
      refine xo_gskip rfl rfl rfl rfl ?_
      refine xo_rd (rd_pickt rfl rfl) rfl ?_
      refine xo_nil ?_
      refine xq_seq ?_
      refine xc_condt rfl ?_
      refine xc_seq ?_
      refine xc_region ?_
      refine xo_rd (rd_loadB rfl Kn.o5 (by rfl)) rfl ?_
      refine xo_ef rfl (ef_storeB [_, _, _] _ rfl rfl (by first | rfl | assumption) rfl rfl rfl ?_)
      refine xo_rd (rd_assign rfl) rfl ?_
      refine xo_nil ?_
      refine xq_seq ?_
      refine xc_ret ?_
      refine xq_then_ret ?_
      rotate_left
      refine xo_grd rfl rfl (rd_move rfl) rfl ?_
      refine xo_rd (rd_pickf rfl rfl) rfl ?_
      refine xo_nil ?_
      refine xq_seq ?_
      refine xc_cond rfl (fun hj7 => ?_) (fun hj7 => ?_)
      refine xc_seq ?_
      refine xc_region ?_
      refine xo_rd (rd_loadB rfl Kn.o5 (by rfl)) rfl ?_
      refine xo_ef rfl (ef_storeB [_, _, _] _ rfl rfl (by first | rfl | assumption) rfl rfl rfl ?_)
      refine xo_rd (rd_assign rfl) rfl ?_
      refine xo_nil ?_
      refine xq_seq ?_
      refine xc_ret ?_
      refine xq_then_ret ?_
      rotate_left
      refine xc_skip ?_
      refine xq_seq ?_
      refine xc_seq ?_
      refine xc_seq ?_
      refine xc_region ?_
      refine xo_rd (rd_fieldAddr rfl) rfl ?_
      refine xo_rd (rd_load1 rfl (Cl.o5 rfl)) rfl ?_
      refine xo_rd (rd_len rfl) rfl ?_
      refine xo_rd (rd_fieldAddr rfl) rfl ?_
      refine xo_rd (rd_load1 rfl (Cl.o5 rfl)) rfl ?_
      refine xo_rd (rd_geq rfl rfl) rfl ?_
      refine xo_nil ?_
      refine xq_seq ?_
      refine xc_dec rfl (fun hj8 => ?_) (fun hj8 => ?_)
      refine xc_seq ?_
      refine xc_region ?_
      refine xo_rd (rd_loadB rfl Kn.o5 (by rfl)) rfl ?_
      refine xo_ef rfl (ef_storeB [_, _, _] _ rfl rfl (by first | rfl | assumption) rfl rfl rfl ?_)
      refine xo_rd (rd_assign rfl) rfl ?_
      refine xo_nil ?_
      refine xq_seq ?_
      refine xc_ret ?_
      refine xq_then_ret ?_
      rotate_left
      refine xc_skip ?_
      refine xq_seq ?_
      refine xc_seq ?_
      refine xc_region ?_
      refine xo_rd (rd_assign rfl) rfl ?_
      refine xo_nil ?_
      refine xq_seq ?_
      refine xc_seq ?_
      refine xc_region ?_
      refine xo_rd (rd_move rfl) rfl ?_
      refine xo_rd (rd_fieldAddr rfl) rfl ?_
      refine xo_rd (rd_load1 rfl (Cl.o5 rfl)) rfl ?_
      rotate_left
    · have hE : joinR most ms m = 132 := by unfold joinR; rw [if_neg (fun h => h hr'), if_pos hj5]
      exact xq_retB2 (.inl rfl) Tryz.results67 rfl rfl (.inr (List.Mem.tail _ (List.Mem.head _))) rfl ((List.sublist_cons_self _ _).trans ((List.sublist_cons_self _ _).trans ((List.sublist_cons_self _ _).trans (List.sublist_cons_self _ _)))) (keep 132 hE (by decide))
    · have hE : joinR most ms m = 140 := by unfold joinR; rw [if_neg (fun h => h hr'), if_neg (by simp [hj5]), if_pos (.inl hj6)]
      exact xq_retB2 (.inl rfl) Tryz.results67 rfl rfl (.inr (List.Mem.tail _ (List.Mem.tail _ (List.Mem.tail _ (List.Mem.head _))))) rfl ((List.sublist_cons_self _ _).trans ((List.sublist_cons_self _ _).trans ((List.sublist_cons_self _ _).trans ((List.sublist_cons_self _ _).trans ((List.sublist_cons_self _ _).trans (List.sublist_cons_self _ _)))))) (keep 140 hE (by decide))
    · have hE : joinR most ms m = 140 := by unfold joinR; rw [if_neg (fun h => h hr'), if_neg (by simp [hj5]), if_pos (.inr hj7)]
      exact xq_retB2 (.inl rfl) Tryz.results67 rfl rfl (.inr (List.Mem.tail _ (List.Mem.tail _ (List.Mem.tail _ (List.Mem.head _))))) rfl ((List.sublist_cons_self _ _).trans ((List.sublist_cons_self _ _).trans ((List.sublist_cons_self _ _).trans ((List.sublist_cons_self _ _).trans ((List.sublist_cons_self _ _).trans (List.sublist_cons_self _ _)))))) (keep 140 hE (by decide))
    · have hE : joinR most ms m = 131 := by unfold joinR; rw [if_neg (fun h => h hr'), if_neg (by simp [hj5]), if_neg (by simp [hj6, hj7]), if_pos hj8]
      exact xq_retB2 (.inl rfl) Tryz.results67 rfl rfl (.inr (List.Mem.tail _ (List.Mem.tail _ (List.Mem.tail _ (List.Mem.head _))))) rfl ((List.sublist_cons_self _ _).trans ((List.sublist_cons_self _ _).trans ((List.sublist_cons_self _ _).trans ((List.sublist_cons_self _ _).trans ((List.sublist_cons_self _ _).trans (List.sublist_cons_self _ _)))))) (keep 131 hE (by decide))
    · have hE : joinR most ms m = 0 := by unfold joinR; rw [if_neg (fun h => h hr'), if_neg (by simp [hj5]), if_neg (by simp [hj6, hj7]), if_neg hj8]
      have hJ : joinL most ms m = ms ++ [m] := by unfold joinL; rw [if_pos hE]
      rw [hE, hJ]
      refine xo_ef rfl (ef_append [_, _, _, _, _, _] L [] rfl rfl SlO.nil rfl (hr.mono (by intro z hz; simp [hz])) (flat_length Mb.enc Mb.len _) (Mb.one _) (by decide) (by omega) (by omega) fun v3 lo hO3 => ?_)
      simp only [Nat.zero_add, List.nil_append] at hO3
      obtain ⟨p3, k3, rfl, hO3, _⟩ := hO3.opn
      focus
        refine xo_rd (rd_assign rfl) rfl ?_
        refine xo_nil ?_
        refine xq_seq ?_
        refine xc_seq ?_
        refine xc_drawM [0, 1, 0, 0, 8, 20, 34, 127, 255] [0, 1, 0, 0, 8, 20, 34, 127, 255] [(r3, .cells m.enc.toArray 88 (0, 0)), (r2, .cells #[.int .i64 most, .slice p ms.length c] 34 (0, 0))] (by kernel_rfl) (by kernel_rfl) (by kernel_rfl) ?_
        refine xm_take 0 (m' := 1) rfl (by kernel_rfl) (by first | exact Sb.refl | exact Sb.nil | (repeat (first | exact Sb.nil | exact Sb.refl | exact Sb.app0 | apply Sb.keep | apply Sb.keepApp | apply Sb.cons | apply Sb.app))) (rd_fieldAddr rfl) rfl (by kernel_rfl) ?_
        refine xm_take 1 (m' := 3) rfl (by kernel_rfl) (by first | exact Sb.refl | exact Sb.nil | (repeat (first | exact Sb.nil | exact Sb.refl | exact Sb.app0 | apply Sb.keep | apply Sb.keepApp | apply Sb.cons | apply Sb.app))) (rd_load1 rfl (Cl.o1 rfl)) rfl (by kernel_rfl) ?_
        refine xm_take 2 (m' := 7) rfl (by kernel_rfl) (by first | exact Sb.refl | exact Sb.nil | (repeat (first | exact Sb.nil | exact Sb.refl | exact Sb.app0 | apply Sb.keep | apply Sb.keepApp | apply Sb.cons | apply Sb.app))) (rd_move rfl) rfl (by kernel_rfl) ?_
        refine xm_take 3 (m' := 15) rfl (by kernel_rfl) (by first | exact Sb.refl | exact Sb.nil | (repeat (first | exact Sb.nil | exact Sb.refl | exact Sb.app0 | apply Sb.keep | apply Sb.keepApp | apply Sb.cons | apply Sb.app))) (rd_loadB rfl Kn.o0 (by rfl)) rfl (by kernel_rfl) ?_
        refine xm_one 4 (m' := 31) rfl (by kernel_rfl) rfl (by kernel_rfl) (ef_sliceA (vs := m.enc) rfl rfl (by rw [Mb.len]; decide) (by rw [Mb.len]; decide) fun r81 => ?_)
        refine ⟨(by first | exact Sb.refl | exact Sb.nil | (repeat (first | exact Sb.nil | exact Sb.refl | exact Sb.app0 | apply Sb.keep | apply Sb.keepApp | apply Sb.cons | apply Sb.app))), ?_⟩
        refine xm_one 5 (m' := 63) rfl (by kernel_rfl) rfl (by kernel_rfl) (ef_appendS [_, _, _, _, _, _, _] _ lo rfl rfl hO3 rfl (Rs.fresh (List.Mem.head _)) rfl rfl (by decide) (by omega) (by omega) fun q4 k4 lo4 hO4 hk4 => ?_)
        refine ⟨(by first | exact Sb.refl | exact Sb.nil | (repeat (first | exact Sb.nil | exact Sb.refl | exact Sb.app0 | apply Sb.keep | apply Sb.keepApp | apply Sb.cons | apply Sb.app))), ?_⟩
        refine xm_take 6 (m' := 127) rfl (by kernel_rfl) (by first | exact Sb.refl | exact Sb.nil | (repeat (first | exact Sb.nil | exact Sb.refl | exact Sb.app0 | apply Sb.keep | apply Sb.keepApp | apply Sb.cons | apply Sb.app))) (rd_build rfl rfl rfl) rfl (by kernel_rfl) ?_
        refine xm_one 7 (m' := 255) rfl (by kernel_rfl) rfl (by kernel_rfl) (ef_storeB [_, _, _, _] _ rfl rfl (by first | rfl | assumption) rfl rfl rfl ?_)
        refine ⟨(by first | exact Sb.refl | exact Sb.nil | (repeat (first | exact Sb.nil | exact Sb.refl | exact Sb.app0 | apply Sb.keep | apply Sb.keepApp | apply Sb.cons | apply Sb.app))), ?_⟩
        refine xm_take 8 (m' := 511) rfl (by kernel_rfl) (by first | exact Sb.refl | exact Sb.nil | (repeat (first | exact Sb.nil | exact Sb.refl | exact Sb.app0 | apply Sb.keep | apply Sb.keepApp | apply Sb.cons | apply Sb.app))) (rd_assign rfl) rfl (by kernel_rfl) ?_
        refine xm_done (by kernel_rfl) ?_
        refine xq_seq ?_
        refine xc_ret ?_
      exact xq_retB2 (.inl rfl) Tryz.results67 rfl rfl (.inr (List.Mem.tail _ (List.Mem.tail _ (List.Mem.tail _ (List.Mem.tail _ (List.Mem.head _)))))) rfl (List.sublist_append_right [_, _, _, _, _, _, _] _) ⟨q4, k4, lo4, by rw [List.length_append]; rfl, rfl, by rw [List.flatMap_append]; simpa using hO4.rs (by intro z hz; simp [hz])⟩
  · have hE : joinR most ms m = 2 := by unfold joinR; rw [if_pos hr']
    have hk := keep 2 hE (by decide)
    focus
      refine xc_seq ?_
      refine xc_region ?_
      refine xo_ef rfl (ef_box rfl fun r2 => ?_)
      refine xo_ef rfl (ef_box rfl fun r3 => ?_)
      refine xo_ef rfl (ef_alloc fun r4 => ?_)
      refine xo_rd (rd_assign rfl) rfl ?_
      refine xo_nil ?_
      refine xq_seq ?_
      refine xc_seq ?_
      refine xc_seq ?_
      refine xc_region ?_
      refine xo_rd (rd_fieldAddr rfl) rfl ?_
      refine xo_rd (rd_load1 rfl (Cl.o1 rfl)) rfl ?_
      refine xo_rd (rd_lss rfl rfl) rfl ?_
      refine xo_rd (rd_move rfl) rfl ?_
      refine xo_dec 18 rfl (fun hj1 => ?_) (fun hj1 => ?_)
      refine xo_gskip rfl rfl rfl rfl ?_
      refine xo_gskip rfl rfl rfl rfl ?_
      refine xo_gskip rfl rfl rfl rfl ?_
      refine xo_rd (rd_pickt rfl rfl) rfl ?_
      refine xo_rd (rd_move rfl) rfl ?_
      refine xo_gskip rfl rfl rfl rfl ?_
      refine xo_gskip rfl rfl rfl rfl ?_
      refine xo_gskip rfl rfl rfl rfl ?_
      refine xo_rd (rd_pickt rfl rfl) rfl ?_
      refine xo_rd (rd_move rfl) rfl ?_
      refine xo_gskip rfl rfl rfl rfl ?_
      refine xo_gskip rfl rfl rfl rfl ?_
      refine xo_gskip rfl rfl rfl rfl ?_
      refine xo_gskip rfl rfl rfl rfl ?_
      refine xo_gskip rfl rfl rfl rfl ?_
      refine xo_rd (rd_pickt rfl rfl) rfl ?_
      refine xo_nil ?_
      refine xq_seq ?_
      refine xc_condt rfl ?_
      refine xc_seq ?_
      refine xc_region ?_
      refine xo_rd (rd_loadB rfl Kn.o2 (by rfl)) rfl ?_
      refine xo_ef rfl (ef_storeB [] _ rfl rfl (by first | rfl | assumption) rfl rfl rfl ?_)
      refine xo_rd (rd_assign rfl) rfl ?_
      refine xo_nil ?_
      refine xq_seq ?_
      refine xc_ret ?_
      refine xq_then_ret ?_
      rotate_left
      refine xo_grd rfl rfl (rd_fieldAddr rfl) rfl ?_
      refine xo_grd rfl rfl (rd_load1 rfl (Cl.o1 rfl)) rfl ?_
      refine xo_grd rfl rfl (rd_eql rfl rfl) rfl ?_
      refine xo_rd (rd_pickf rfl rfl) rfl ?_
      refine xo_rd (rd_move rfl) rfl ?_
      refine xo_dec 23 rfl (fun hj2 => ?_) (fun hj2 => ?_)
      refine xo_gskip rfl rfl rfl rfl ?_
      refine xo_gskip rfl rfl rfl rfl ?_
      refine xo_gskip rfl rfl rfl rfl ?_
      refine xo_rd (rd_pickt rfl rfl) rfl ?_
      refine xo_rd (rd_move rfl) rfl ?_
      refine xo_gskip rfl rfl rfl rfl ?_
      refine xo_gskip rfl rfl rfl rfl ?_
      refine xo_gskip rfl rfl rfl rfl ?_
      refine xo_gskip rfl rfl rfl rfl ?_
      refine xo_gskip rfl rfl rfl rfl ?_
      refine xo_rd (rd_pickt rfl rfl) rfl ?_
      refine xo_nil ?_
      refine xq_seq ?_
      refine xc_condt rfl ?_
      refine xc_seq ?_
      refine xc_region ?_
      refine xo_rd (rd_loadB rfl Kn.o2 (by rfl)) rfl ?_
      refine xo_ef rfl (ef_storeB [] _ rfl rfl (by first | rfl | assumption) rfl rfl rfl ?_)
      refine xo_rd (rd_assign rfl) rfl ?_
      refine xo_nil ?_
      refine xq_seq ?_
      refine xc_ret ?_
      refine xq_then_ret ?_
      rotate_left
      refine xo_grd rfl rfl (rd_fieldAddr rfl) rfl ?_
      refine xo_grd rfl rfl (rd_load1 rfl (Cl.o1 rfl)) rfl ?_
      refine xo_grd rfl rfl (rd_eql rfl rfl) rfl ?_
      refine xo_rd (rd_pickf rfl rfl) rfl ?_
      refine xo_rd (rd_move rfl) rfl ?_
      refine xo_dec 28 rfl (fun hj3 => ?_) (fun hj3 => ?_)
      refine xo_gskip rfl rfl rfl rfl ?_
      refine xo_gskip rfl rfl rfl rfl ?_
      refine xo_gskip rfl rfl rfl rfl ?_
      refine xo_gskip rfl rfl rfl rfl ?_
      refine xo_gskip rfl rfl rfl rfl ?_
      refine xo_rd (rd_pickt rfl rfl) rfl ?_
      refine xo_nil ?_
      refine xq_seq ?_
      refine xc_condt rfl ?_
      refine xc_seq ?_
      refine xc_region ?_
      refine xo_rd (rd_loadB rfl Kn.o2 (by rfl)) rfl ?_
      refine xo_ef rfl (ef_storeB [] _ rfl rfl (by first | rfl | assumption) rfl rfl rfl ?_)
      refine xo_rd (rd_assign rfl) rfl ?_
      refine xo_nil ?_
      refine xq_seq ?_
      refine xc_ret ?_
      refine xq_then_ret ?_
      rotate_left
      refine xo_grd rfl rfl (rd_fieldAddr rfl) rfl ?_
      refine xo_grd rfl rfl (rd_load1 rfl (Cl.o1 rfl)) rfl ?_
      refine xo_grd rfl rfl (rd_fieldAddr rfl) rfl ?_
      refine xo_grd rfl rfl (rd_load1 rfl (Cl.o1 rfl)) rfl ?_
      refine xo_grd rfl rfl (rd_eql rfl rfl) rfl ?_
      refine xo_rd (rd_pickf rfl rfl) rfl ?_
      refine xo_nil ?_
      refine xq_seq ?_
      refine xc_dec rfl (fun hj4 => ?_) (fun hj4 => ?_)
      refine xc_seq ?_
      refine xc_region ?_
      refine xo_rd (rd_loadB rfl Kn.o2 (by rfl)) rfl ?_
      refine xo_ef rfl (ef_storeB [] _ rfl rfl (by first | rfl | assumption) rfl rfl rfl ?_)
      refine xo_rd (rd_assign rfl) rfl ?_
      refine xo_nil ?_
      refine xq_seq ?_
      refine xc_ret ?_
      refine xq_then_ret ?_
      rotate_left
      refine xc_skip ?_
      refine xq_seq ?_
      rotate_left
    · exact xq_retB2 (.inl rfl) Tryz.results67 rfl rfl Kn.o0 rfl ((List.sublist_cons_self _ _).trans ((List.sublist_cons_self _ _).trans (List.sublist_cons_self _ _))) hk
    · exact xq_retB2 (.inl rfl) Tryz.results67 rfl rfl Kn.o0 rfl ((List.sublist_cons_self _ _).trans ((List.sublist_cons_self _ _).trans (List.sublist_cons_self _ _))) hk
    · exact xq_retB2 (.inl rfl) Tryz.results67 rfl rfl Kn.o0 rfl ((List.sublist_cons_self _ _).trans ((List.sublist_cons_self _ _).trans (List.sublist_cons_self _ _))) hk
    · exact xq_retB2 (.inl rfl) Tryz.results67 rfl rfl Kn.o0 rfl ((List.sublist_cons_self _ _).trans ((List.sublist_cons_self _ _).trans (List.sublist_cons_self _ _))) hk
    · refine absurd ?_ hr'
      unfold Mb.right
      rintro (h | h | h | h)
      · exact hj1 h
      · exact hj2 h
      · exact hj3 h
      · exact hj4 h
end Go.Proofs.YtmdeajdaeihniaaGreat.X
/-
  Chapter 25: rows of ids; what is known of a call, whatever order its blocks have: walks of my own.
-/
namespace Go.Proofs.YtmdeajdaeihniaaGreat.X
open Go Go.RowKit
set_option linter.unusedVariables false
set_option linter.unusedSimpArgs false
theorem XF.mapK {P : Program} {W : World} {f : FuncId} {L : List Blk} {args : Array Value} {K K' : Value → List Blk → Prop} (h : XF P W f args L K) (hk : ∀ v L', K v L' → ∃ L'', L'.Perm L'' ∧ K' v L'') : XF P W f args L K' := .mk fun w hw =>
  Calls.mono (h.run w hw) fun e w' ⟨v, he, L', h1, h2⟩ => by
    obtain ⟨L'', hp, h3⟩ := hk _ _ h2
    exact ⟨v, he, L'', h1.perm hp, h3⟩
/-- A call that leaves its blocks, told of all that stand in another order. -/
theorem XF.permK {P : Program} {W : World} {f : FuncId} {L0 L1 : List Blk} {args : Array Value} {φ : Value → Prop} (hp : L0.Perm L1) (h : XF P W f args L1 (fun v L' => φ v ∧ L' = L1)) : XF P W f args L0 (fun v L' => φ v ∧ L' = L0) :=
  (h.perm hp).mapK fun v L' h1 => ⟨L0, h1.2 ▸ hp.symm, h1.1, rfl⟩
/-- slices.Index: the first place of a number. -/
theorem xf_indexI {W : World} {L : List Blk} (p : Option Addr) (m c : Nat) (ns : List Int) (x : Int) (hx : ns.length = m) (hr : Rs W L p (ints .i64 ns)) (hm : m ≤ 1000000000) : XF Tryz.prog W 90 #[.slice p m c, .int .i64 x] L (fun v L' => v = .int .i64 (ixOf ns x) ∧ L' = L) := by
  refine xf_enter (args := [_, _]) Tryz.func90 rfl Tryz.ntmps90 rfl ?_
  focus
    refine xc_seq ?_
    refine xc_region ?_
    refine xo_rd (rd_assign rfl) rfl ?_
    refine xo_nil ?_
    refine xq_seq ?_
    refine xc_seq ?_
    refine xc_seq ?_
    refine xc_region ?_
    refine xo_rd (rd_move rfl) rfl ?_
    refine xo_rd (rd_len rfl) rfl ?_
    refine xo_rd (rd_move rfl) rfl ?_
    refine xo_nil ?_
    refine xq_seq ?_
    refine xc_block ?_
  refine xc_loopI (ι := Nat) (fun k => k ≤ m ∧ ∀ i, (hi : i < k) → (h2 : i < ns.length) → ns[i] ≠ x) (fun k => m - k) (fun _ => L) (fun k => [(0, .slice p m c), (1, .int .i64 x), (7, .int .i64 m), (8, .int .i64 k)]) 0 ⟨Nat.zero_le _, fun i hi => by omega⟩ rfl (by repeat (first | exact keep_nil | refine keep_cons rfl ?_)) ?_
  rintro k ⟨hk, hno⟩
  focus
    refine xc_seq ?_
    refine xc_region ?_
    refine xo_rd (rd_lss rfl rfl) rfl ?_
    refine xo_nil ?_
    refine xq_seq ?_
    refine xc_seq ?_
    refine xc_dec rfl (fun hk1 => ?_) (fun hk1 => ?_)
    refine xc_skip ?_
    refine xq_seq ?_
    refine xc_seq ?_
    refine xc_block ?_
    refine xc_seq ?_
    refine xc_region ?_
    refine xo_rd (rd_move rfl) rfl ?_
    refine xo_rd (rd_assign rfl) rfl ?_
    refine xo_nil ?_
    refine xq_seq ?_
    refine xc_seq ?_
    refine xc_region ?_
    refine xo_rd (rd_move rfl) rfl ?_
    refine xo_rd (rd_move rfl) rfl ?_
    refine xo_rd (rd_move rfl) rfl ?_
    rotate_left
    refine xc_exit ?_
    refine xq_then_exit ?_
    refine xq_then_exit ?_
    refine xq_block_hit ?_
    refine xq_seq ?_
    refine xc_seq ?_
    refine xc_region ?_
    refine xo_rd (rd_assign rfl) rfl ?_
    refine xo_nil ?_
    refine xq_seq ?_
    refine xc_ret ?_
    rotate_left
  · obtain ⟨b, o, hp, hc⟩ := hr.int (i := k) (by omega)
    subst hp
    focus
      refine xo_rd (rd_indexAddr rfl rfl (by omega) (by omega)) rfl ?_
      refine xo_rd (rd_load1 rfl hc) rfl ?_
      refine xo_rd (rd_eql rfl rfl) rfl ?_
      refine xo_nil ?_
      refine xq_seq ?_
      refine xc_dec rfl (fun hq1 => ?_) (fun hq1 => ?_)
      refine xc_seq ?_
      refine xc_region ?_
      refine xo_rd (rd_move rfl) rfl ?_
      refine xo_rd (rd_assign rfl) rfl ?_
      refine xo_nil ?_
      refine xq_seq ?_
      refine xc_ret ?_
      refine xq_block_ret ?_
      refine xq_then_ret ?_
      refine xq_then_ret ?_
      refine xq_block_ret ?_
      refine xq_then_ret ?_
      rotate_left
      refine xc_skip ?_
      refine xq_block ?_
      refine xq_seq ?_
      refine xc_region ?_
      refine xo_rd (rd_addn rfl rfl (by omega) (by omega)) rfl ?_
      refine xo_rd (rd_move rfl) rfl ?_
      refine xo_nil ?_
      rotate_left
    · refine xq_ret1 (.inl rfl) Tryz.results90 rfl ⟨?_, rfl⟩
      rw [ixOf_some (k := k) (by omega) hq1.symm (fun i hi => hno i hi (by omega))]
    · refine xq_roundI (k + 1) ⟨by omega, fun i hi h2 => ?_⟩ (by omega) rfl (by repeat (first | exact keep_nil | refine keep_cons rfl ?_))
      by_cases he : i = k
      · subst he; exact fun e => hq1 e.symm
      · exact hno i (by omega) h2
  · refine xq_ret1 (.inl rfl) Tryz.results90 rfl ⟨?_, rfl⟩
    rw [ixOf_none (fun i hi => hno i (by omega) hi)]
theorem xf_containsI {W : World} {L : List Blk} (p : Option Addr) (m c : Nat) (ns : List Int) (x : Int) (hx : ns.length = m) (hr : Rs W L p (ints .i64 ns)) (hm : m ≤ 1000000000) : XF Tryz.prog W 56 #[.slice p m c, .int .i64 x] L (fun v L' => v = .bool (decide (0 ≤ ixOf ns x)) ∧ L' = L) := by
  refine xf_enter (args := [_, _]) Tryz.func56 rfl Tryz.ntmps56 rfl ?_
  focus
    refine xc_seq ?_
    refine xc_region ?_
    refine xo_rd (rd_assign rfl) rfl ?_
    refine xo_nil ?_
    refine xq_seq ?_
    refine xc_seq ?_
    refine xc_region ?_
    refine xo_rd (rd_move rfl) rfl ?_
    refine xo_rd (rd_move rfl) rfl ?_
    refine xo_ef rfl (ef_call rfl (XF.mono (xf_indexI p m c ns x hx hr hm) ?_))
    rintro v L' ⟨rfl, rfl⟩
    refine xo_rd (rd_geq rfl rfl) rfl ?_
    refine xo_rd (rd_assign rfl) rfl ?_
    refine xo_nil ?_
    refine xq_seq ?_
    refine xc_ret ?_
    exact xq_ret1 (.inl rfl) Tryz.results56 rfl (⟨rfl, rfl⟩)
/-- slices.Clone: a row in new memory. -/
theorem xf_cloneI {W : World} {L : List Blk} (p : Option Addr) (m c : Nat) (xs : List Value) (hx : xs.length = m * 1) (hr : Rs W L p xs) (h1 : xs.all (·.oneCell') = true) (hm : m ≤ 1000000000) : XF Tryz.prog W 91 #[.slice p m c] L (fun v L' => ∃ q k l, v = .slice q m k ∧ SlO 1 3 (.slice q m k) m xs l ∧ m ≤ k ∧ L' = l ++ L) := by
  refine xf_enter (args := [_]) Tryz.func91 rfl Tryz.ntmps91 rfl ?_
  cases p with
  | none =>
    have h0 := hr.none_nil
    subst h0
    have hm0 : m = 0 := by simp at hx; omega
    subst hm0
    focus
      refine xc_seq ?_
      refine xc_region ?_
      refine xo_rd (rd_assign rfl) rfl ?_
      refine xo_nil ?_
      refine xq_seq ?_
      refine xc_seq ?_
      refine xc_seq ?_
      refine xc_region ?_
      refine xo_rd (rd_move rfl) rfl ?_
      refine xo_rd (rd_eqnilS rfl) rfl ?_
      refine xo_nil ?_
      refine xq_seq ?_
      refine xc_condt rfl ?_
      refine xc_seq ?_
      refine xc_region ?_
      refine xo_rd (rd_assign rfl) rfl ?_
      refine xo_nil ?_
      refine xq_seq ?_
      refine xc_ret ?_
      refine xq_then_ret ?_
    exact xq_ret1 (.inl rfl) Tryz.results91 rfl ⟨none, 0, [], rfl, SlO.nil, Nat.le_refl _, rfl⟩
  | some a =>
    focus
      refine xc_seq ?_
      refine xc_region ?_
      refine xo_rd (rd_assign rfl) rfl ?_
      refine xo_nil ?_
      refine xq_seq ?_
      refine xc_seq ?_
      refine xc_seq ?_
      refine xc_region ?_
      refine xo_rd (rd_move rfl) rfl ?_
      refine xo_rd (rd_eqnilS rfl) rfl ?_
      refine xo_nil ?_
      refine xq_seq ?_
      refine xc_condf rfl ?_
      refine xc_skip ?_
      refine xq_seq ?_
      refine xc_seq ?_
      refine xc_region ?_
      refine xo_ef rfl (ef_slice0 fun r5 => ?_)
      refine xo_rd (rd_move rfl) rfl ?_
    refine xo_ef rfl (ef_append [] L [_] rfl rfl SlO.zero rfl hr.skip hx h1 (by decide) (by omega) (by omega) fun v' l' hO => ?_)
    rw [Nat.zero_add, List.nil_append] at hO
    obtain ⟨q, k, rfl, hO, _⟩ := hO.opn
    focus
      refine xo_rd (rd_assign rfl) rfl ?_
      refine xo_nil ?_
      refine xq_seq ?_
      refine xc_ret ?_
    exact xq_ret1 (.inl rfl) Tryz.results91 rfl ⟨q, k, l', rfl, hO, hO.cap.2, rfl⟩
/-- easelkit's SameBytes (and its like): are two rows the same? -/
theorem xf_sameI {W : World} {L : List Blk} (p q : Option Addr) (m m' c c' : Nat) (xs ys : List Int) (hx : xs.length = m) (hy : ys.length = m') (hr : Rs W L p (ints .i64 xs)) (hs : Rs W L q (ints .i64 ys)) (hm : m ≤ 1000000000) : XF Tryz.prog W 22 #[.slice p m c, .slice q m' c'] L (fun v L' => v = .bool (decide (xs = ys)) ∧ L' = L) := by
  refine xf_enter (args := [_, _]) Tryz.func22 rfl Tryz.ntmps22 rfl ?_
  focus
    refine xc_seq ?_
    refine xc_region ?_
    refine xo_rd (rd_assign rfl) rfl ?_
    refine xo_nil ?_
    refine xq_seq ?_
    refine xc_seq ?_
    refine xc_seq ?_
    refine xc_region ?_
    refine xo_rd (rd_move rfl) rfl ?_
    refine xo_rd (rd_len rfl) rfl ?_
    refine xo_rd (rd_move rfl) rfl ?_
    refine xo_rd (rd_len rfl) rfl ?_
    refine xo_rd (rd_neq rfl rfl) rfl ?_
    refine xo_nil ?_
    refine xq_seq ?_
    refine xc_ndec rfl (fun h1 => ?_) (fun h1 => ?_)
    refine xc_seq ?_
    refine xc_region ?_
    refine xo_rd (rd_assign rfl) rfl ?_
    refine xo_nil ?_
    refine xq_seq ?_
    refine xc_ret ?_
    refine xq_then_ret ?_
    rotate_left
    refine xc_skip ?_
    refine xq_seq ?_
    refine xc_seq ?_
    refine xc_seq ?_
    refine xc_region ?_
    refine xo_rd (rd_assign rfl) rfl ?_
    refine xo_nil ?_
    refine xq_seq ?_
    refine xc_block ?_
    rotate_left
  · refine xq_ret1 (.inl rfl) Tryz.results22 rfl ⟨?_, rfl⟩
    rw [decide_eq_false (fun e => by subst e; omega)]
  · have hmm : m' = m := by omega
    subst hmm
    refine xc_loopI (ι := Nat) (fun k => k ≤ m' ∧ xs.take k = ys.take k) (fun k => m' - k) (fun _ => L) (fun k => [(0, .slice p m' c), (1, .slice q m' c'), (5, .int .i64 k)]) 0 ⟨Nat.zero_le _, by simp⟩ rfl (by repeat (first | exact keep_nil | refine keep_cons rfl ?_)) ?_
    rintro k ⟨hk, he⟩
    focus
      refine xc_seq ?_
      refine xc_seq ?_
      refine xc_region ?_
      refine xo_rd (rd_move rfl) rfl ?_
      refine xo_rd (rd_move rfl) rfl ?_
      refine xo_rd (rd_len rfl) rfl ?_
      refine xo_rd (rd_lss rfl rfl) rfl ?_
      refine xo_nil ?_
      refine xq_seq ?_
      refine xc_dec rfl (fun hk1 => ?_) (fun hk1 => ?_)
      refine xc_skip ?_
      refine xq_seq ?_
      refine xc_seq ?_
      refine xc_block ?_
      refine xc_seq ?_
      refine xc_drawML [0, 0, 3, 4, 0, 0, 48, 64, 136] [0, 0, 3, 4, 0, 0, 48, 64, 136] (by kernel_rfl) (by kernel_rfl) (by kernel_rfl) ?_
      refine xm_take 0 (m' := 1) rfl (by kernel_rfl) (by first | exact Sb.refl | exact Sb.nil | (repeat (first | exact Sb.nil | exact Sb.refl | exact Sb.app0 | apply Sb.keep | apply Sb.keepApp | apply Sb.cons | apply Sb.app))) (rd_move rfl) rfl (by kernel_rfl) ?_
      refine xm_take 1 (m' := 3) rfl (by kernel_rfl) (by first | exact Sb.refl | exact Sb.nil | (repeat (first | exact Sb.nil | exact Sb.refl | exact Sb.app0 | apply Sb.keep | apply Sb.keepApp | apply Sb.cons | apply Sb.app))) (rd_move rfl) rfl (by kernel_rfl) ?_
      refine xm_take 4 (m' := 19) rfl (by kernel_rfl) (by first | exact Sb.refl | exact Sb.nil | (repeat (first | exact Sb.nil | exact Sb.refl | exact Sb.app0 | apply Sb.keep | apply Sb.keepApp | apply Sb.cons | apply Sb.app))) (rd_move rfl) rfl (by kernel_rfl) ?_
      refine xm_take 5 (m' := 51) rfl (by kernel_rfl) (by first | exact Sb.refl | exact Sb.nil | (repeat (first | exact Sb.nil | exact Sb.refl | exact Sb.app0 | apply Sb.keep | apply Sb.keepApp | apply Sb.cons | apply Sb.app))) (rd_move rfl) rfl (by kernel_rfl) ?_
      rotate_left
      refine xc_exit ?_
      refine xq_then_exit ?_
      refine xq_then_exit ?_
      refine xq_block_hit ?_
      refine xq_seq ?_
      refine xc_seq ?_
      refine xc_region ?_
      refine xo_rd (rd_assign rfl) rfl ?_
      refine xo_nil ?_
      refine xq_seq ?_
      refine xc_ret ?_
      rotate_left
    · obtain ⟨b, o, hp, hc⟩ := hr.int (i := k) (by omega)
      obtain ⟨b', o', hp', hc'⟩ := hs.int (i := k) (by omega)
      subst hp hp'
      focus
        refine xm_take 2 (m' := 55) rfl (by kernel_rfl) (by first | exact Sb.refl | exact Sb.nil | (repeat (first | exact Sb.nil | exact Sb.refl | exact Sb.app0 | apply Sb.keep | apply Sb.keepApp | apply Sb.cons | apply Sb.app))) (rd_indexAddr rfl rfl (by omega) (by omega)) rfl (by kernel_rfl) ?_
        refine xm_take 3 (m' := 63) rfl (by kernel_rfl) (by first | exact Sb.refl | exact Sb.nil | (repeat (first | exact Sb.nil | exact Sb.refl | exact Sb.app0 | apply Sb.keep | apply Sb.keepApp | apply Sb.cons | apply Sb.app))) (rd_load1 rfl hc) rfl (by kernel_rfl) ?_
        refine xm_take 6 (m' := 127) rfl (by kernel_rfl) (by first | exact Sb.refl | exact Sb.nil | (repeat (first | exact Sb.nil | exact Sb.refl | exact Sb.app0 | apply Sb.keep | apply Sb.keepApp | apply Sb.cons | apply Sb.app))) (rd_indexAddr rfl rfl (by omega) (by omega)) rfl (by kernel_rfl) ?_
        refine xm_take 7 (m' := 255) rfl (by kernel_rfl) (by first | exact Sb.refl | exact Sb.nil | (repeat (first | exact Sb.nil | exact Sb.refl | exact Sb.app0 | apply Sb.keep | apply Sb.keepApp | apply Sb.cons | apply Sb.app))) (rd_load1 rfl hc') rfl (by kernel_rfl) ?_
        refine xm_take 8 (m' := 511) rfl (by kernel_rfl) (by first | exact Sb.refl | exact Sb.nil | (repeat (first | exact Sb.nil | exact Sb.refl | exact Sb.app0 | apply Sb.keep | apply Sb.keepApp | apply Sb.cons | apply Sb.app))) (rd_neq rfl rfl) rfl (by kernel_rfl) ?_
        refine xm_done (by kernel_rfl) ?_
        refine xq_seq ?_
        refine xc_ndec rfl (fun hq1 => ?_) (fun hq1 => ?_)
        refine xc_seq ?_
        refine xc_region ?_
        refine xo_rd (rd_assign rfl) rfl ?_
        refine xo_nil ?_
        refine xq_seq ?_
        refine xc_ret ?_
        refine xq_block_ret ?_
        refine xq_then_ret ?_
        refine xq_then_ret ?_
        refine xq_block_ret ?_
        refine xq_then_ret ?_
        rotate_left
        refine xc_skip ?_
        refine xq_block ?_
        refine xq_seq ?_
        refine xc_region ?_
        refine xo_rd (rd_move rfl) rfl ?_
        refine xo_rd (rd_addn rfl rfl (by omega) (by omega)) rfl ?_
        refine xo_rd (rd_assign rfl) rfl ?_
        refine xo_nil ?_
        rotate_left
      · refine xq_ret1 (.inl rfl) Tryz.results22 rfl ⟨?_, rfl⟩
        rw [decide_eq_false (fun e => by subst e; exact hq1 rfl)]
      · refine xq_roundI (k + 1) ⟨by omega, ?_⟩ (by omega) rfl (by repeat (first | exact keep_nil | refine keep_cons rfl ?_))
        rw [List.take_add_one, List.take_add_one, he, List.getElem?_eq_getElem (by omega), List.getElem?_eq_getElem (by omega), hq1]
    · have hkm : k = m' := by omega
      subst hkm
      refine xq_ret1 (.inl rfl) Tryz.results22 rfl ⟨?_, rfl⟩
      rw [List.take_of_length_le (by omega), List.take_of_length_le (by omega)] at he
      rw [decide_eq_true he]
/-- easelkit's Pick, of a small n above 0. -/
theorem xf_pickI {W : World} {L : List Blk} (x n : Int) (hn : 0 < n) (hn' : n ≤ 1000) : XF Tryz.prog W 27 #[.int .i64 x, .int .i64 n] L (fun v L' => v = .int .i64 ((x.tmod n + n) % n) ∧ L' = L) := by
  refine xf_enter (args := [_, _]) Tryz.func27 rfl Tryz.ntmps27 rfl ?_
  have h1 := Int.tmod_lt_of_pos x hn
  have h2 := Int.lt_tmod_of_pos x hn
  focus
    refine xc_seq ?_
    refine xc_region ?_
    refine xo_rd (rd_assign rfl) rfl ?_
    refine xo_nil ?_
    refine xq_seq ?_
    refine xc_seq ?_
    refine xc_seq ?_
    refine xc_region ?_
    refine xo_rd (rd_move rfl) rfl ?_
    refine xo_rd (rd_leq rfl rfl) rfl ?_
    refine xo_nil ?_
    refine xq_seq ?_
    refine xc_dec rfl (fun h1 => (by exfalso; omega)) (fun h1 => ?_)
    refine xc_skip ?_
    refine xq_seq ?_
    refine xc_seq ?_
    refine xc_region ?_
    refine xo_rd (rd_move rfl) rfl ?_
    refine xo_rd (rd_move rfl) rfl ?_
    refine xo_rd (rd_rem rfl rfl (by omega)) rfl ?_
    refine xo_rd (rd_move rfl) rfl ?_
    refine xo_rd (rd_addn rfl rfl (by omega) (by omega)) rfl ?_
    refine xo_rd (rd_move rfl) rfl ?_
    refine xo_rd (rd_rem rfl rfl (by omega)) rfl ?_
    refine xo_rd (rd_assign rfl) rfl ?_
    refine xo_nil ?_
    refine xq_seq ?_
    refine xc_ret ?_
  refine xq_ret1 (.inl rfl) Tryz.results27 rfl ⟨?_, rfl⟩
  rw [Int.tmod_eq_emod_of_nonneg (by omega)]
theorem xf_is51 {W : World} {L : List Blk} (x : Int) (q : Nat) (y : Int) (hq : Cl W L q 0 (.int .i64 y)) : XF Tryz.prog W 66 #[.int .i64 x, .pointer (some ⟨q, 0, none⟩)] L (fun v L' => v = .bool (decide (x = y)) ∧ L' = L) := by
  refine xf_enter (args := [_, _]) Tryz.func66 rfl Tryz.ntmps66 rfl ?_
  focus
    refine xc_seq ?_
    refine xc_region ?_
    refine xo_rd (rd_assign rfl) rfl ?_
    refine xo_nil ?_
    refine xq_seq ?_
    refine xc_seq ?_
    refine xc_region ?_
    refine xo_rd (rd_move rfl) rfl ?_
    refine xo_rd (rd_load1 rfl hq) rfl ?_
    refine xo_rd (rd_eql rfl rfl) rfl ?_
    refine xo_rd (rd_assign rfl) rfl ?_
    refine xo_nil ?_
    refine xq_seq ?_
    refine xc_ret ?_
    exact xq_ret1 (.inl rfl) Tryz.results66 rfl (⟨rfl, rfl⟩)
/-- What IndexFunc tells. -/
theorem xf_ixi51 {W : World} {L : List Blk} (p : Option Addr) (m c : Nat) (ns : List Int) (pd : Int → Bool) (hx : ns.length = m) (hr : Rs W L p (ints .i64 ns)) (hm : m ≤ 1000000000) (q : Nat) (hp : ∀ x, x ∈ ns → XF Tryz.prog W 66 #[.int .i64 x, .pointer (some ⟨q, 0, none⟩)] L (fun v L' => v = .bool (pd x) ∧ L' = L)) : XF Tryz.prog W 103 #[.slice p m c, .func (.func 66) #[] #[.pointer (some ⟨q, 0, none⟩)]] L (fun v L' => v = .int .i64 (ixP pd ns) ∧ L' = L) := by
  refine xf_enter (args := [_, _]) Tryz.func103 rfl Tryz.ntmps103 rfl ?_
  focus
    refine xc_seq ?_
    refine xc_region ?_
    refine xo_rd (rd_assign rfl) rfl ?_
    refine xo_nil ?_
    refine xq_seq ?_
    refine xc_seq ?_
    refine xc_seq ?_
    refine xc_region ?_
    refine xo_rd (rd_move rfl) rfl ?_
    refine xo_rd (rd_len rfl) rfl ?_
    refine xo_rd (rd_move rfl) rfl ?_
    refine xo_nil ?_
    refine xq_seq ?_
    refine xc_block ?_
  refine xc_loopK (ι := Nat) (fun k => k ≤ m ∧ ∀ (i : Nat) (h : i < ns.length), i < k → pd ns[i] = false) (fun k => m - k) (fun k => [(0, .slice p m c), (1, .func (.func 66) #[] #[.pointer (some ⟨q, 0, none⟩)]), (7, .int .i64 m), (8, .int .i64 k)]) 0 ⟨Nat.zero_le _, fun i h hi => absurd hi (Nat.not_lt_zero _)⟩ (by repeat (first | exact keep_nil | refine keep_cons rfl ?_)) ?_
  rintro k ⟨hk, hno⟩
  by_cases hkm : k < m
  · obtain ⟨b, o, hpb, hc⟩ := hr.int (i := k) (by omega)
    subst hpb
    have hpx := hp ns[k] (List.getElem_mem _)
    obtain ⟨s, hs⟩ : ∃ s, pd ns[k] = s := ⟨_, rfl⟩
    rw [hs] at hpx
    focus
      refine xc_seq ?_
      refine xc_region ?_
      refine xo_rd (rd_lss rfl rfl) rfl ?_
      refine xo_nil ?_
      refine xq_seq ?_
      refine xc_seq ?_
      refine xc_dec rfl (fun hz1 => ?_) (fun hz1 => (by exfalso; omega))
      refine xc_skip ?_
      refine xq_seq ?_
      refine xc_seq ?_
      refine xc_block ?_
      refine xc_seq ?_
      refine xc_region ?_
      refine xo_rd (rd_move rfl) rfl ?_
      refine xo_rd (rd_assign rfl) rfl ?_
      refine xo_nil ?_
      refine xq_seq ?_
      refine xc_seq ?_
      refine xc_region ?_
      refine xo_rd (rd_move rfl) rfl ?_
      refine xo_rd (rd_move rfl) rfl ?_
      refine xo_rd (rd_move rfl) rfl ?_
      refine xo_rd (rd_indexAddr rfl rfl (by omega) (by omega)) rfl ?_
      refine xo_rd (rd_load1 rfl hc) rfl ?_
      refine xo_ef rfl (ef_callk (r := .bool s) (vs := [.int .i64 ns[k]]) (first := []) (cap := [.pointer (some ⟨q, 0, none⟩)]) rfl rfl hpx ?_)
      refine xo_nil ?_
      refine xq_seq ?_
      refine xc_cond rfl (fun hz2 => ?_) (fun hz2 => ?_)
      refine xc_seq ?_
      refine xc_region ?_
      refine xo_rd (rd_move rfl) rfl ?_
      refine xo_rd (rd_assign rfl) rfl ?_
      refine xo_nil ?_
      refine xq_seq ?_
      refine xc_ret ?_
      refine xq_block_ret ?_
      refine xq_then_ret ?_
      refine xq_then_ret ?_
      refine xq_block_ret ?_
      refine xq_then_ret ?_
      rotate_left
      refine xc_skip ?_
      refine xq_block ?_
      refine xq_seq ?_
      refine xc_region ?_
      refine xo_rd (rd_addn rfl rfl (by omega) (by omega)) rfl ?_
      refine xo_rd (rd_move rfl) rfl ?_
      refine xo_nil ?_
      rotate_left
    · refine xq_ret1 (.inl rfl) Tryz.results103 rfl ⟨?_, rfl⟩
      rw [ixP_some (k := k) (by omega) (hs.trans hz2) (fun i h hi => hno i h hi)]
    · refine xq_roundK rfl (k + 1) ⟨by omega, fun i h hi => ?_⟩ (by omega) (List.Sublist.refl _) (by repeat (first | exact keep_nil | refine keep_cons rfl ?_))
      by_cases he : i = k
      · subst he; exact hs.trans hz2
      · exact hno i h (by omega)
  · skip
    focus
      refine xc_seq ?_
      refine xc_region ?_
      refine xo_rd (rd_lss rfl rfl) rfl ?_
      refine xo_nil ?_
      refine xq_seq ?_
      refine xc_seq ?_
      refine xc_dec rfl (fun h1 => (by exfalso; omega)) (fun h1 => ?_)
      refine xc_exit ?_
      refine xq_then_exit ?_
      refine xq_then_exit ?_
      refine xq_block_hit ?_
      refine xq_seq ?_
      refine xc_seq ?_
      refine xc_region ?_
      refine xo_rd (rd_assign rfl) rfl ?_
      refine xo_nil ?_
      refine xq_seq ?_
      refine xc_ret ?_
    refine xq_ret1 (.inl rfl) Tryz.results103 rfl ⟨?_, rfl⟩
    rw [ixP_none (fun i h => hno i h (by omega))]
/-- DeleteFunc: what is told is taken out. -/
theorem xf_deli51 {W : World} {R : List Blk} (p : Option Addr) (m c : Nat) (ns : List Int) (l : List Blk) (hO : SlQ 1 3 (.slice p m c) m (ints .i64 ns) l) (hx : ns.length = m) (pd : Int → Bool) (hm : m ≤ 1000000000) (q : Nat) (hp : ∀ l' x, x ∈ ns → XF Tryz.prog W 66 #[.int .i64 x, .pointer (some ⟨q, 0, none⟩)] (l' ++ R) (fun v L' => v = .bool (pd x) ∧ L' = l' ++ R)) : XF Tryz.prog W 65 #[.slice p m c, .func (.func 66) #[] #[.pointer (some ⟨q, 0, none⟩)]] (l ++ R) (fun v L' => ∃ l', v = .slice p (ns.filter fun x => !pd x).length c ∧ SlQ 1 3 (.slice p (ns.filter fun x => !pd x).length c) (ns.filter fun x => !pd x).length (ints .i64 (ns.filter fun x => !pd x)) l' ∧ L' = l' ++ R) := by
  have hmc : m ≤ c := by obtain ⟨_, _, hv, _, h⟩ := hO.opn; simp only [Value.slice.injEq] at hv; omega
  have hix := xf_ixi51 (W := W) (L := l ++ R) p m c ns pd hx hO.rsl hm q (hp l)
  refine xf_enter (args := [_, _]) Tryz.func65 rfl Tryz.ntmps65 rfl ?_
  by_cases hneg : ixP pd ns = -1
  · rw [hneg] at hix
    focus
      refine xc_seq ?_
      refine xc_region ?_
      refine xo_rd (rd_assign rfl) rfl ?_
      refine xo_nil ?_
      refine xq_seq ?_
      refine xc_seq ?_
      refine xc_region ?_
      refine xo_rd (rd_move rfl) rfl ?_
      refine xo_rd (rd_move rfl) rfl ?_
      refine xo_ef rfl (ef_call rfl (XF.mono (hix) ?_))
      rintro v L' ⟨rfl, rfl⟩
      refine xo_rd (rd_assign rfl) rfl ?_
      refine xo_nil ?_
      refine xq_seq ?_
      refine xc_seq ?_
      refine xc_seq ?_
      refine xc_region ?_
      refine xo_rd (rd_move rfl) rfl ?_
      refine xo_rd (rd_eql rfl rfl) rfl ?_
      refine xo_nil ?_
      refine xq_seq ?_
      refine xc_condt rfl ?_
      refine xc_seq ?_
      refine xc_region ?_
      refine xo_rd (rd_move rfl) rfl ?_
      refine xo_rd (rd_assign rfl) rfl ?_
      refine xo_nil ?_
      refine xq_seq ?_
      refine xc_ret ?_
      refine xq_then_ret ?_
    refine xq_ret1 (.inl rfl) Tryz.results65 rfl ?_
    have hf : (ns.filter fun x => !pd x) = ns := ixP_neg hneg
    rw [hf, hx]
    exact ⟨l, rfl, hO, rfl⟩
  obtain ⟨k0, hk0, hk0m, hkt, hkn⟩ := ixP_pos (pd := pd) (ns := ns) hneg
  rw [hk0] at hix
  focus
    refine xc_seq ?_
    refine xc_region ?_
    refine xo_rd (rd_assign rfl) rfl ?_
    refine xo_nil ?_
    refine xq_seq ?_
    refine xc_seq ?_
    refine xc_region ?_
    refine xo_rd (rd_move rfl) rfl ?_
    refine xo_rd (rd_move rfl) rfl ?_
    refine xo_ef rfl (ef_call rfl (XF.mono (hix) ?_))
    rintro v L' ⟨rfl, rfl⟩
    refine xo_rd (rd_assign rfl) rfl ?_
    refine xo_nil ?_
    refine xq_seq ?_
    refine xc_seq ?_
    refine xc_seq ?_
    refine xc_region ?_
    refine xo_rd (rd_move rfl) rfl ?_
    refine xo_rd (rd_eql rfl rfl) rfl ?_
    refine xo_nil ?_
    refine xq_seq ?_
    refine xc_condf rfl ?_
    refine xc_skip ?_
    refine xq_seq ?_
    refine xc_seq ?_
    refine xc_seq ?_
    refine xc_region ?_
    refine xo_rd (rd_move rfl) rfl ?_
    refine xo_rd (rd_addn rfl rfl (by omega) (by omega)) rfl ?_
    refine xo_rd (rd_assign rfl) rfl ?_
    refine xo_nil ?_
    refine xq_seq ?_
    refine xc_block ?_
  refine xc_loopI (ι := DfS) (fun s => s.j ≤ m ∧ s.i < s.j ∧ s.xs.length = m ∧ s.i = ((ns.take s.j).filter fun x => !pd x).length ∧ s.xs.take s.i = (ns.take s.j).filter (fun x => !pd x) ∧ s.xs.drop s.j = ns.drop s.j ∧ SlQ 1 3 (.slice p m c) m (ints .i64 s.xs) s.l) (fun s => m - s.j) (fun s => s.l ++ R) (fun s => [(0, .slice p m c), (1, .func (.func 66) #[] #[.pointer (some ⟨q, 0, none⟩)]), (5, .int .i64 s.i), (6, .int .i64 s.j)]) ⟨k0, k0 + 1, ns, l⟩ ?_ rfl (by repeat (first | exact keep_nil | refine keep_cons rfl ?_)) ?_
  · have htk : (ns.take (k0 + 1)).filter (fun x => !pd x) = ns.take k0 := df_start (by omega) hkt hkn
    exact ⟨by dsimp only; omega, by dsimp only; omega, hx, by dsimp only; rw [htk, List.length_take]; omega, by dsimp only; rw [htk], rfl, hO⟩
  rintro ⟨i, j, xs, l1⟩ ⟨hj, hij, hxl, hi, htk, hdr, hO1⟩
  dsimp only at hj hij hxl hi htk hdr hO1 ⊢
  by_cases hjm : j < m
  · have hxj : xs[j]'(by omega) = ns[j]'(by omega) := by
      have h := congrArg (fun l => l[0]?) hdr
      simp only [List.getElem?_drop, Nat.add_zero] at h
      rw [List.getElem?_eq_getElem (by omega), List.getElem?_eq_getElem (by omega)] at h
      exact Option.some.inj h
    have hrs : Rs W (l1 ++ R) p (ints .i64 xs) := hO1.rsl
    obtain ⟨b, o, hpb, hc⟩ := hrs.int (i := j) (by omega)
    subst hpb
    have hpx := hp l1 (ns[j]'(by omega)) (List.getElem_mem _)
    rw [← hxj] at hpx
    obtain ⟨s, hs⟩ : ∃ s, pd (xs[j]'(by omega)) = s := ⟨_, rfl⟩
    rw [hs] at hpx
    have hstep := df_step (pd := pd) (ns := ns) (j := j) (by omega)
    rw [← hxj, hs] at hstep
    generalize hxv : xs[j]'(by omega) = xv at *
    focus
      refine xc_seq ?_
      refine xc_seq ?_
      refine xc_region ?_
      refine xo_rd (rd_move rfl) rfl ?_
      refine xo_rd (rd_move rfl) rfl ?_
      refine xo_rd (rd_len rfl) rfl ?_
      refine xo_rd (rd_lss rfl rfl) rfl ?_
      refine xo_nil ?_
      refine xq_seq ?_
      refine xc_dec rfl (fun hz1 => ?_) (fun hz1 => (by exfalso; omega))
      refine xc_skip ?_
      refine xq_seq ?_
      refine xc_seq ?_
      refine xc_block ?_
      refine xc_seq ?_
      refine xc_region ?_
      refine xo_rd (rd_move rfl) rfl ?_
      refine xo_rd (rd_move rfl) rfl ?_
      refine xo_rd (rd_indexAddr rfl rfl (by omega) (by omega)) rfl ?_
      refine xo_rd (rd_load1 rfl hc) rfl ?_
      refine xo_rd (rd_assign rfl) rfl ?_
      refine xo_nil ?_
      refine xq_seq ?_
      refine xc_seq ?_
      refine xc_region ?_
      refine xo_rd (rd_move rfl) rfl ?_
      refine xo_rd (rd_move rfl) rfl ?_
      refine xo_ef rfl (ef_callk (r := .bool s) (vs := [.int .i64 xv]) (first := []) (cap := [.pointer (some ⟨q, 0, none⟩)]) rfl rfl hpx ?_)
      refine xo_rd (rd_not rfl) rfl ?_
      refine xo_nil ?_
      refine xq_seq ?_
      refine xc_cond rfl (fun hz2 => ?_) (fun hz2 => ?_)
      refine xc_seq ?_
      refine xc_region ?_
      refine xo_rd (rd_move rfl) rfl ?_
      refine xo_rd (rd_move rfl) rfl ?_
      refine xo_rd (rd_move rfl) rfl ?_
      refine xo_rd (rd_indexAddr rfl rfl (by omega) (by omega)) rfl ?_
      refine xo_ef rfl (ef_storeQ1 [] R i (v := .int .i64 xv) hO1 rfl (by omega) rfl rfl rfl (by omega) rfl fun l2 hO2 => ?_)
      refine xo_nil ?_
      refine xq_seq ?_
      refine xc_region ?_
      refine xo_rd (rd_move rfl) rfl ?_
      refine xo_rd (rd_addn rfl rfl (by omega) (by omega)) rfl ?_
      refine xo_rd (rd_assign rfl) rfl ?_
      refine xo_nil ?_
      refine xq_block ?_
      refine xq_seq ?_
      refine xc_region ?_
      refine xo_rd (rd_move rfl) rfl ?_
      refine xo_rd (rd_addn rfl rfl (by omega) (by omega)) rfl ?_
      refine xo_rd (rd_assign rfl) rfl ?_
      refine xo_nil ?_
      rotate_left
      refine xc_skip ?_
      refine xq_block ?_
      refine xq_seq ?_
      refine xc_region ?_
      refine xo_rd (rd_move rfl) rfl ?_
      refine xo_rd (rd_addn rfl rfl (by omega) (by omega)) rfl ?_
      refine xo_rd (rd_assign rfl) rfl ?_
      refine xo_nil ?_
      rotate_left
    · have hsf : s = false := by simpa using hz2
      rw [hsf] at hstep
      simp only [Bool.not_false, if_true] at hstep
      refine xq_roundI (⟨i + 1, j + 1, xs.set i xv, l2⟩ : DfS) ⟨by dsimp only; omega, by dsimp only; omega, by dsimp only; rw [List.length_set]; exact hxl, by dsimp only; rw [hstep, List.length_append, ← hi]; rfl, ?_, ?_, ?_⟩ (by dsimp only; omega) rfl (by repeat (first | exact keep_nil | refine keep_cons rfl ?_))
      · dsimp only
        rw [hstep, ← htk, df_set (by omega)]
      · dsimp only
        rw [List.drop_set, if_pos (by omega), ← List.tail_drop, ← List.tail_drop, hdr]
      · dsimp only
        rw [ints_set]; exact hO2
    · have hst : s = true := by simpa using hz2
      rw [hst] at hstep
      simp only [Bool.not_true, Bool.false_eq_true, if_false, List.append_nil] at hstep
      refine xq_roundI (⟨i, j + 1, xs, l1⟩ : DfS) ⟨by dsimp only; omega, by dsimp only; omega, hxl, by dsimp only; rw [hstep]; exact hi, by dsimp only; rw [hstep]; exact htk, ?_, hO1⟩ (by dsimp only; omega) rfl (by repeat (first | exact keep_nil | refine keep_cons rfl ?_))
      dsimp only
      rw [← List.tail_drop, ← List.tail_drop, hdr]
  · have hjm' : j = m := by omega
    subst hjm'
    have htn : ns.take j = ns := List.take_of_length_le (by omega)
    rw [htn] at hi htk
    have hpre := hO1.pre i (by omega)
    obtain ⟨b, o, hpb, _⟩ := (hO1.rsl (W := W) (R := R)) 0 (.int .i64 (xs[0]'(by omega))) (by simp [ints])
    subst hpb
    focus
      refine xc_seq ?_
      refine xc_seq ?_
      refine xc_region ?_
      refine xo_rd (rd_move rfl) rfl ?_
      refine xo_rd (rd_move rfl) rfl ?_
      refine xo_rd (rd_len rfl) rfl ?_
      refine xo_rd (rd_lss rfl rfl) rfl ?_
      refine xo_nil ?_
      refine xq_seq ?_
      refine xc_dec rfl (fun h1 => (by exfalso; omega)) (fun h1 => ?_)
      refine xc_exit ?_
      refine xq_then_exit ?_
      refine xq_then_exit ?_
      refine xq_block_hit ?_
      refine xq_seq ?_
      refine xc_seq ?_
      refine xc_region ?_
      refine xo_rd (rd_move rfl) rfl ?_
      refine xo_rd (rd_move rfl) rfl ?_
      refine xo_rd (rd_cast (v' := .slice (slp (some ⟨b, o, none⟩) c i 1) (j - i) (c - i)) (rd_slLo rfl rfl (by omega) (by omega)) (by rw [Int.toNat_natCast])) rfl ?_
      refine xo_ef rfl (ef_clearQ [] R l1 hpre rfl rfl (by omega) (by omega) (by simp [Value.cells, Value.oneCell']) fun l2 hO2 => ?_)
      refine xo_nil ?_
      refine xq_seq ?_
      refine xc_seq ?_
      refine xc_region ?_
      refine xo_rd (rd_move rfl) rfl ?_
      refine xo_rd (rd_move rfl) rfl ?_
      refine xo_rd (rd_cast (v' := .slice (some ⟨b, o, none⟩) i c) (rd_slHi rfl rfl (by omega) (by omega)) (by rw [Int.toNat_natCast])) rfl ?_
      refine xo_rd (rd_assign rfl) rfl ?_
      refine xo_nil ?_
      refine xq_seq ?_
      refine xc_ret ?_
    refine xq_ret1 (.inl rfl) Tryz.results65 rfl ⟨l2, by rw [hi], ?_, rfl⟩
    rw [Nat.mul_one] at hO2
    rw [← htk]
    have hlt : (xs.take i).length = i := by rw [List.length_take]; omega
    rw [hlt, ints_take]
    exact hO2
/-- What IndexFunc tells. -/
theorem xf_ixi58 {W : World} {L : List Blk} (p : Option Addr) (m c : Nat) (ns : List Int) (pd : Int → Bool) (hx : ns.length = m) (hr : Rs W L p (ints .i64 ns)) (hm : m ≤ 1000000000) (q q2 : Nat) (hp : ∀ x, x ∈ ns → XF Tryz.prog W 98 #[.int .i64 x, .pointer (some ⟨q, 0, none⟩), .pointer (some ⟨q2, 0, none⟩)] L (fun v L' => v = .bool (pd x) ∧ L' = L)) : XF Tryz.prog W 103 #[.slice p m c, .func (.func 98) #[] #[.pointer (some ⟨q, 0, none⟩), .pointer (some ⟨q2, 0, none⟩)]] L (fun v L' => v = .int .i64 (ixP pd ns) ∧ L' = L) := by
  refine xf_enter (args := [_, _]) Tryz.func103 rfl Tryz.ntmps103 rfl ?_
  focus
    refine xc_seq ?_
    refine xc_region ?_
    refine xo_rd (rd_assign rfl) rfl ?_
    refine xo_nil ?_
    refine xq_seq ?_
    refine xc_seq ?_
    refine xc_seq ?_
    refine xc_region ?_
    refine xo_rd (rd_move rfl) rfl ?_
    refine xo_rd (rd_len rfl) rfl ?_
    refine xo_rd (rd_move rfl) rfl ?_
    refine xo_nil ?_
    refine xq_seq ?_
    refine xc_block ?_
  refine xc_loopK (ι := Nat) (fun k => k ≤ m ∧ ∀ (i : Nat) (h : i < ns.length), i < k → pd ns[i] = false) (fun k => m - k) (fun k => [(0, .slice p m c), (1, .func (.func 98) #[] #[.pointer (some ⟨q, 0, none⟩), .pointer (some ⟨q2, 0, none⟩)]), (7, .int .i64 m), (8, .int .i64 k)]) 0 ⟨Nat.zero_le _, fun i h hi => absurd hi (Nat.not_lt_zero _)⟩ (by repeat (first | exact keep_nil | refine keep_cons rfl ?_)) ?_
  rintro k ⟨hk, hno⟩
  by_cases hkm : k < m
  · obtain ⟨b, o, hpb, hc⟩ := hr.int (i := k) (by omega)
    subst hpb
    have hpx := hp ns[k] (List.getElem_mem _)
    obtain ⟨s, hs⟩ : ∃ s, pd ns[k] = s := ⟨_, rfl⟩
    rw [hs] at hpx
    focus
      refine xc_seq ?_
      refine xc_region ?_
      refine xo_rd (rd_lss rfl rfl) rfl ?_
      refine xo_nil ?_
      refine xq_seq ?_
      refine xc_seq ?_
      refine xc_dec rfl (fun hz1 => ?_) (fun hz1 => (by exfalso; omega))
      refine xc_skip ?_
      refine xq_seq ?_
      refine xc_seq ?_
      refine xc_block ?_
      refine xc_seq ?_
      refine xc_region ?_
      refine xo_rd (rd_move rfl) rfl ?_
      refine xo_rd (rd_assign rfl) rfl ?_
      refine xo_nil ?_
      refine xq_seq ?_
      refine xc_seq ?_
      refine xc_region ?_
      refine xo_rd (rd_move rfl) rfl ?_
      refine xo_rd (rd_move rfl) rfl ?_
      refine xo_rd (rd_move rfl) rfl ?_
      refine xo_rd (rd_indexAddr rfl rfl (by omega) (by omega)) rfl ?_
      refine xo_rd (rd_load1 rfl hc) rfl ?_
      refine xo_ef rfl (ef_callk (r := .bool s) (vs := [.int .i64 ns[k]]) (first := []) (cap := [.pointer (some ⟨q, 0, none⟩), .pointer (some ⟨q2, 0, none⟩)]) rfl rfl hpx ?_)
      refine xo_nil ?_
      refine xq_seq ?_
      refine xc_cond rfl (fun hz2 => ?_) (fun hz2 => ?_)
      refine xc_seq ?_
      refine xc_region ?_
      refine xo_rd (rd_move rfl) rfl ?_
      refine xo_rd (rd_assign rfl) rfl ?_
      refine xo_nil ?_
      refine xq_seq ?_
      refine xc_ret ?_
      refine xq_block_ret ?_
      refine xq_then_ret ?_
      refine xq_then_ret ?_
      refine xq_block_ret ?_
      refine xq_then_ret ?_
      rotate_left
      refine xc_skip ?_
      refine xq_block ?_
      refine xq_seq ?_
      refine xc_region ?_
      refine xo_rd (rd_addn rfl rfl (by omega) (by omega)) rfl ?_
      refine xo_rd (rd_move rfl) rfl ?_
      refine xo_nil ?_
      rotate_left
    · refine xq_ret1 (.inl rfl) Tryz.results103 rfl ⟨?_, rfl⟩
      rw [ixP_some (k := k) (by omega) (hs.trans hz2) (fun i h hi => hno i h hi)]
    · refine xq_roundK rfl (k + 1) ⟨by omega, fun i h hi => ?_⟩ (by omega) (List.Sublist.refl _) (by repeat (first | exact keep_nil | refine keep_cons rfl ?_))
      by_cases he : i = k
      · subst he; exact hs.trans hz2
      · exact hno i h (by omega)
  · skip
    focus
      refine xc_seq ?_
      refine xc_region ?_
      refine xo_rd (rd_lss rfl rfl) rfl ?_
      refine xo_nil ?_
      refine xq_seq ?_
      refine xc_seq ?_
      refine xc_dec rfl (fun h1 => (by exfalso; omega)) (fun h1 => ?_)
      refine xc_exit ?_
      refine xq_then_exit ?_
      refine xq_then_exit ?_
      refine xq_block_hit ?_
      refine xq_seq ?_
      refine xc_seq ?_
      refine xc_region ?_
      refine xo_rd (rd_assign rfl) rfl ?_
      refine xo_nil ?_
      refine xq_seq ?_
      refine xc_ret ?_
    refine xq_ret1 (.inl rfl) Tryz.results103 rfl ⟨?_, rfl⟩
    rw [ixP_none (fun i h => hno i h (by omega))]
/-- DeleteFunc: what is told is taken out. -/
theorem xf_deli58 {W : World} {R : List Blk} (p : Option Addr) (m c : Nat) (ns : List Int) (l : List Blk) (hO : SlQ 1 3 (.slice p m c) m (ints .i64 ns) l) (hx : ns.length = m) (pd : Int → Bool) (hm : m ≤ 1000000000) (q q2 : Nat) (hp : ∀ l' x, x ∈ ns → XF Tryz.prog W 98 #[.int .i64 x, .pointer (some ⟨q, 0, none⟩), .pointer (some ⟨q2, 0, none⟩)] (l' ++ R) (fun v L' => v = .bool (pd x) ∧ L' = l' ++ R)) : XF Tryz.prog W 65 #[.slice p m c, .func (.func 98) #[] #[.pointer (some ⟨q, 0, none⟩), .pointer (some ⟨q2, 0, none⟩)]] (l ++ R) (fun v L' => ∃ l', v = .slice p (ns.filter fun x => !pd x).length c ∧ SlQ 1 3 (.slice p (ns.filter fun x => !pd x).length c) (ns.filter fun x => !pd x).length (ints .i64 (ns.filter fun x => !pd x)) l' ∧ L' = l' ++ R) := by
  have hmc : m ≤ c := by obtain ⟨_, _, hv, _, h⟩ := hO.opn; simp only [Value.slice.injEq] at hv; omega
  have hix := xf_ixi58 (W := W) (L := l ++ R) p m c ns pd hx hO.rsl hm q q2 (hp l)
  refine xf_enter (args := [_, _]) Tryz.func65 rfl Tryz.ntmps65 rfl ?_
  by_cases hneg : ixP pd ns = -1
  · rw [hneg] at hix
    focus
      refine xc_seq ?_
      refine xc_region ?_
      refine xo_rd (rd_assign rfl) rfl ?_
      refine xo_nil ?_
      refine xq_seq ?_
      refine xc_seq ?_
      refine xc_region ?_
      refine xo_rd (rd_move rfl) rfl ?_
      refine xo_rd (rd_move rfl) rfl ?_
      refine xo_ef rfl (ef_call rfl (XF.mono (hix) ?_))
      rintro v L' ⟨rfl, rfl⟩
      refine xo_rd (rd_assign rfl) rfl ?_
      refine xo_nil ?_
      refine xq_seq ?_
      refine xc_seq ?_
      refine xc_seq ?_
      refine xc_region ?_
      refine xo_rd (rd_move rfl) rfl ?_
      refine xo_rd (rd_eql rfl rfl) rfl ?_
      refine xo_nil ?_
      refine xq_seq ?_
      refine xc_condt rfl ?_
      refine xc_seq ?_
      refine xc_region ?_
      refine xo_rd (rd_move rfl) rfl ?_
      refine xo_rd (rd_assign rfl) rfl ?_
      refine xo_nil ?_
      refine xq_seq ?_
      refine xc_ret ?_
      refine xq_then_ret ?_
    refine xq_ret1 (.inl rfl) Tryz.results65 rfl ?_
    have hf : (ns.filter fun x => !pd x) = ns := ixP_neg hneg
    rw [hf, hx]
    exact ⟨l, rfl, hO, rfl⟩
  obtain ⟨k0, hk0, hk0m, hkt, hkn⟩ := ixP_pos (pd := pd) (ns := ns) hneg
  rw [hk0] at hix
  focus
    refine xc_seq ?_
    refine xc_region ?_
    refine xo_rd (rd_assign rfl) rfl ?_
    refine xo_nil ?_
    refine xq_seq ?_
    refine xc_seq ?_
    refine xc_region ?_
    refine xo_rd (rd_move rfl) rfl ?_
    refine xo_rd (rd_move rfl) rfl ?_
    refine xo_ef rfl (ef_call rfl (XF.mono (hix) ?_))
    rintro v L' ⟨rfl, rfl⟩
    refine xo_rd (rd_assign rfl) rfl ?_
    refine xo_nil ?_
    refine xq_seq ?_
    refine xc_seq ?_
    refine xc_seq ?_
    refine xc_region ?_
    refine xo_rd (rd_move rfl) rfl ?_
    refine xo_rd (rd_eql rfl rfl) rfl ?_
    refine xo_nil ?_
    refine xq_seq ?_
    refine xc_condf rfl ?_
    refine xc_skip ?_
    refine xq_seq ?_
    refine xc_seq ?_
    refine xc_seq ?_
    refine xc_region ?_
    refine xo_rd (rd_move rfl) rfl ?_
    refine xo_rd (rd_addn rfl rfl (by omega) (by omega)) rfl ?_
    refine xo_rd (rd_assign rfl) rfl ?_
    refine xo_nil ?_
    refine xq_seq ?_
    refine xc_block ?_
  refine xc_loopI (ι := DfS) (fun s => s.j ≤ m ∧ s.i < s.j ∧ s.xs.length = m ∧ s.i = ((ns.take s.j).filter fun x => !pd x).length ∧ s.xs.take s.i = (ns.take s.j).filter (fun x => !pd x) ∧ s.xs.drop s.j = ns.drop s.j ∧ SlQ 1 3 (.slice p m c) m (ints .i64 s.xs) s.l) (fun s => m - s.j) (fun s => s.l ++ R) (fun s => [(0, .slice p m c), (1, .func (.func 98) #[] #[.pointer (some ⟨q, 0, none⟩), .pointer (some ⟨q2, 0, none⟩)]), (5, .int .i64 s.i), (6, .int .i64 s.j)]) ⟨k0, k0 + 1, ns, l⟩ ?_ rfl (by repeat (first | exact keep_nil | refine keep_cons rfl ?_)) ?_
  · have htk : (ns.take (k0 + 1)).filter (fun x => !pd x) = ns.take k0 := df_start (by omega) hkt hkn
    exact ⟨by dsimp only; omega, by dsimp only; omega, hx, by dsimp only; rw [htk, List.length_take]; omega, by dsimp only; rw [htk], rfl, hO⟩
  rintro ⟨i, j, xs, l1⟩ ⟨hj, hij, hxl, hi, htk, hdr, hO1⟩
  dsimp only at hj hij hxl hi htk hdr hO1 ⊢
  by_cases hjm : j < m
  · have hxj : xs[j]'(by omega) = ns[j]'(by omega) := by
      have h := congrArg (fun l => l[0]?) hdr
      simp only [List.getElem?_drop, Nat.add_zero] at h
      rw [List.getElem?_eq_getElem (by omega), List.getElem?_eq_getElem (by omega)] at h
      exact Option.some.inj h
    have hrs : Rs W (l1 ++ R) p (ints .i64 xs) := hO1.rsl
    obtain ⟨b, o, hpb, hc⟩ := hrs.int (i := j) (by omega)
    subst hpb
    have hpx := hp l1 (ns[j]'(by omega)) (List.getElem_mem _)
    rw [← hxj] at hpx
    obtain ⟨s, hs⟩ : ∃ s, pd (xs[j]'(by omega)) = s := ⟨_, rfl⟩
    rw [hs] at hpx
    have hstep := df_step (pd := pd) (ns := ns) (j := j) (by omega)
    rw [← hxj, hs] at hstep
    generalize hxv : xs[j]'(by omega) = xv at *
    focus
      refine xc_seq ?_
      refine xc_seq ?_
      refine xc_region ?_
      refine xo_rd (rd_move rfl) rfl ?_
      refine xo_rd (rd_move rfl) rfl ?_
      refine xo_rd (rd_len rfl) rfl ?_
      refine xo_rd (rd_lss rfl rfl) rfl ?_
      refine xo_nil ?_
      refine xq_seq ?_
      refine xc_dec rfl (fun hz1 => ?_) (fun hz1 => (by exfalso; omega))
      refine xc_skip ?_
      refine xq_seq ?_
      refine xc_seq ?_
      refine xc_block ?_
      refine xc_seq ?_
      refine xc_region ?_
      refine xo_rd (rd_move rfl) rfl ?_
      refine xo_rd (rd_move rfl) rfl ?_
      refine xo_rd (rd_indexAddr rfl rfl (by omega) (by omega)) rfl ?_
      refine xo_rd (rd_load1 rfl hc) rfl ?_
      refine xo_rd (rd_assign rfl) rfl ?_
      refine xo_nil ?_
      refine xq_seq ?_
      refine xc_seq ?_
      refine xc_region ?_
      refine xo_rd (rd_move rfl) rfl ?_
      refine xo_rd (rd_move rfl) rfl ?_
      refine xo_ef rfl (ef_callk (r := .bool s) (vs := [.int .i64 xv]) (first := []) (cap := [.pointer (some ⟨q, 0, none⟩), .pointer (some ⟨q2, 0, none⟩)]) rfl rfl hpx ?_)
      refine xo_rd (rd_not rfl) rfl ?_
      refine xo_nil ?_
      refine xq_seq ?_
      refine xc_cond rfl (fun hz2 => ?_) (fun hz2 => ?_)
      refine xc_seq ?_
      refine xc_region ?_
      refine xo_rd (rd_move rfl) rfl ?_
      refine xo_rd (rd_move rfl) rfl ?_
      refine xo_rd (rd_move rfl) rfl ?_
      refine xo_rd (rd_indexAddr rfl rfl (by omega) (by omega)) rfl ?_
      refine xo_ef rfl (ef_storeQ1 [] R i (v := .int .i64 xv) hO1 rfl (by omega) rfl rfl rfl (by omega) rfl fun l2 hO2 => ?_)
      refine xo_nil ?_
      refine xq_seq ?_
      refine xc_region ?_
      refine xo_rd (rd_move rfl) rfl ?_
      refine xo_rd (rd_addn rfl rfl (by omega) (by omega)) rfl ?_
      refine xo_rd (rd_assign rfl) rfl ?_
      refine xo_nil ?_
      refine xq_block ?_
      refine xq_seq ?_
      refine xc_region ?_
      refine xo_rd (rd_move rfl) rfl ?_
      refine xo_rd (rd_addn rfl rfl (by omega) (by omega)) rfl ?_
      refine xo_rd (rd_assign rfl) rfl ?_
      refine xo_nil ?_
      rotate_left
      refine xc_skip ?_
      refine xq_block ?_
      refine xq_seq ?_
      refine xc_region ?_
      refine xo_rd (rd_move rfl) rfl ?_
      refine xo_rd (rd_addn rfl rfl (by omega) (by omega)) rfl ?_
      refine xo_rd (rd_assign rfl) rfl ?_
      refine xo_nil ?_
      rotate_left
    · have hsf : s = false := by simpa using hz2
      rw [hsf] at hstep
      simp only [Bool.not_false, if_true] at hstep
      refine xq_roundI (⟨i + 1, j + 1, xs.set i xv, l2⟩ : DfS) ⟨by dsimp only; omega, by dsimp only; omega, by dsimp only; rw [List.length_set]; exact hxl, by dsimp only; rw [hstep, List.length_append, ← hi]; rfl, ?_, ?_, ?_⟩ (by dsimp only; omega) rfl (by repeat (first | exact keep_nil | refine keep_cons rfl ?_))
      · dsimp only
        rw [hstep, ← htk, df_set (by omega)]
      · dsimp only
        rw [List.drop_set, if_pos (by omega), ← List.tail_drop, ← List.tail_drop, hdr]
      · dsimp only
        rw [ints_set]; exact hO2
    · have hst : s = true := by simpa using hz2
      rw [hst] at hstep
      simp only [Bool.not_true, Bool.false_eq_true, if_false, List.append_nil] at hstep
      refine xq_roundI (⟨i, j + 1, xs, l1⟩ : DfS) ⟨by dsimp only; omega, by dsimp only; omega, hxl, by dsimp only; rw [hstep]; exact hi, by dsimp only; rw [hstep]; exact htk, ?_, hO1⟩ (by dsimp only; omega) rfl (by repeat (first | exact keep_nil | refine keep_cons rfl ?_))
      dsimp only
      rw [← List.tail_drop, ← List.tail_drop, hdr]
  · have hjm' : j = m := by omega
    subst hjm'
    have htn : ns.take j = ns := List.take_of_length_le (by omega)
    rw [htn] at hi htk
    have hpre := hO1.pre i (by omega)
    obtain ⟨b, o, hpb, _⟩ := (hO1.rsl (W := W) (R := R)) 0 (.int .i64 (xs[0]'(by omega))) (by simp [ints])
    subst hpb
    focus
      refine xc_seq ?_
      refine xc_seq ?_
      refine xc_region ?_
      refine xo_rd (rd_move rfl) rfl ?_
      refine xo_rd (rd_move rfl) rfl ?_
      refine xo_rd (rd_len rfl) rfl ?_
      refine xo_rd (rd_lss rfl rfl) rfl ?_
      refine xo_nil ?_
      refine xq_seq ?_
      refine xc_dec rfl (fun h1 => (by exfalso; omega)) (fun h1 => ?_)
      refine xc_exit ?_
      refine xq_then_exit ?_
      refine xq_then_exit ?_
      refine xq_block_hit ?_
      refine xq_seq ?_
      refine xc_seq ?_
      refine xc_region ?_
      refine xo_rd (rd_move rfl) rfl ?_
      refine xo_rd (rd_move rfl) rfl ?_
      refine xo_rd (rd_cast (v' := .slice (slp (some ⟨b, o, none⟩) c i 1) (j - i) (c - i)) (rd_slLo rfl rfl (by omega) (by omega)) (by rw [Int.toNat_natCast])) rfl ?_
      refine xo_ef rfl (ef_clearQ [] R l1 hpre rfl rfl (by omega) (by omega) (by simp [Value.cells, Value.oneCell']) fun l2 hO2 => ?_)
      refine xo_nil ?_
      refine xq_seq ?_
      refine xc_seq ?_
      refine xc_region ?_
      refine xo_rd (rd_move rfl) rfl ?_
      refine xo_rd (rd_move rfl) rfl ?_
      refine xo_rd (rd_cast (v' := .slice (some ⟨b, o, none⟩) i c) (rd_slHi rfl rfl (by omega) (by omega)) (by rw [Int.toNat_natCast])) rfl ?_
      refine xo_rd (rd_assign rfl) rfl ?_
      refine xo_nil ?_
      refine xq_seq ?_
      refine xc_ret ?_
    refine xq_ret1 (.inl rfl) Tryz.results65 rfl ⟨l2, by rw [hi], ?_, rfl⟩
    rw [Nat.mul_one] at hO2
    rw [← htk]
    have hlt : (xs.take i).length = i := by rw [List.length_take]; omega
    rw [hlt, ints_take]
    exact hO2
/-- What IndexFunc tells. -/
theorem xf_ixi63 {W : World} {L : List Blk} (p : Option Addr) (m c : Nat) (ns : List Int) (pd : Int → Bool) (hx : ns.length = m) (hr : Rs W L p (ints .i64 ns)) (hm : m ≤ 1000000000)  (hp : ∀ x, x ∈ ns → XF Tryz.prog W 93 #[.int .i64 x] L (fun v L' => v = .bool (pd x) ∧ L' = L)) : XF Tryz.prog W 103 #[.slice p m c, .func (.func 93) #[] #[]] L (fun v L' => v = .int .i64 (ixP pd ns) ∧ L' = L) := by
  refine xf_enter (args := [_, _]) Tryz.func103 rfl Tryz.ntmps103 rfl ?_
  focus
    refine xc_seq ?_
    refine xc_region ?_
    refine xo_rd (rd_assign rfl) rfl ?_
    refine xo_nil ?_
    refine xq_seq ?_
    refine xc_seq ?_
    refine xc_seq ?_
    refine xc_region ?_
    refine xo_rd (rd_move rfl) rfl ?_
    refine xo_rd (rd_len rfl) rfl ?_
    refine xo_rd (rd_move rfl) rfl ?_
    refine xo_nil ?_
    refine xq_seq ?_
    refine xc_block ?_
  refine xc_loopK (ι := Nat) (fun k => k ≤ m ∧ ∀ (i : Nat) (h : i < ns.length), i < k → pd ns[i] = false) (fun k => m - k) (fun k => [(0, .slice p m c), (1, .func (.func 93) #[] #[]), (7, .int .i64 m), (8, .int .i64 k)]) 0 ⟨Nat.zero_le _, fun i h hi => absurd hi (Nat.not_lt_zero _)⟩ (by repeat (first | exact keep_nil | refine keep_cons rfl ?_)) ?_
  rintro k ⟨hk, hno⟩
  by_cases hkm : k < m
  · obtain ⟨b, o, hpb, hc⟩ := hr.int (i := k) (by omega)
    subst hpb
    have hpx := hp ns[k] (List.getElem_mem _)
    obtain ⟨s, hs⟩ : ∃ s, pd ns[k] = s := ⟨_, rfl⟩
    rw [hs] at hpx
    focus
      refine xc_seq ?_
      refine xc_region ?_
      refine xo_rd (rd_lss rfl rfl) rfl ?_
      refine xo_nil ?_
      refine xq_seq ?_
      refine xc_seq ?_
      refine xc_dec rfl (fun hz1 => ?_) (fun hz1 => (by exfalso; omega))
      refine xc_skip ?_
      refine xq_seq ?_
      refine xc_seq ?_
      refine xc_block ?_
      refine xc_seq ?_
      refine xc_region ?_
      refine xo_rd (rd_move rfl) rfl ?_
      refine xo_rd (rd_assign rfl) rfl ?_
      refine xo_nil ?_
      refine xq_seq ?_
      refine xc_seq ?_
      refine xc_region ?_
      refine xo_rd (rd_move rfl) rfl ?_
      refine xo_rd (rd_move rfl) rfl ?_
      refine xo_rd (rd_move rfl) rfl ?_
      refine xo_rd (rd_indexAddr rfl rfl (by omega) (by omega)) rfl ?_
      refine xo_rd (rd_load1 rfl hc) rfl ?_
      refine xo_ef rfl (ef_callk (r := .bool s) (vs := [.int .i64 ns[k]]) (first := []) (cap := []) rfl rfl hpx ?_)
      refine xo_nil ?_
      refine xq_seq ?_
      refine xc_cond rfl (fun hz2 => ?_) (fun hz2 => ?_)
      refine xc_seq ?_
      refine xc_region ?_
      refine xo_rd (rd_move rfl) rfl ?_
      refine xo_rd (rd_assign rfl) rfl ?_
      refine xo_nil ?_
      refine xq_seq ?_
      refine xc_ret ?_
      refine xq_block_ret ?_
      refine xq_then_ret ?_
      refine xq_then_ret ?_
      refine xq_block_ret ?_
      refine xq_then_ret ?_
      rotate_left
      refine xc_skip ?_
      refine xq_block ?_
      refine xq_seq ?_
      refine xc_region ?_
      refine xo_rd (rd_addn rfl rfl (by omega) (by omega)) rfl ?_
      refine xo_rd (rd_move rfl) rfl ?_
      refine xo_nil ?_
      rotate_left
    · refine xq_ret1 (.inl rfl) Tryz.results103 rfl ⟨?_, rfl⟩
      rw [ixP_some (k := k) (by omega) (hs.trans hz2) (fun i h hi => hno i h hi)]
    · refine xq_roundK rfl (k + 1) ⟨by omega, fun i h hi => ?_⟩ (by omega) (List.Sublist.refl _) (by repeat (first | exact keep_nil | refine keep_cons rfl ?_))
      by_cases he : i = k
      · subst he; exact hs.trans hz2
      · exact hno i h (by omega)
  · skip
    focus
      refine xc_seq ?_
      refine xc_region ?_
      refine xo_rd (rd_lss rfl rfl) rfl ?_
      refine xo_nil ?_
      refine xq_seq ?_
      refine xc_seq ?_
      refine xc_dec rfl (fun h1 => (by exfalso; omega)) (fun h1 => ?_)
      refine xc_exit ?_
      refine xq_then_exit ?_
      refine xq_then_exit ?_
      refine xq_block_hit ?_
      refine xq_seq ?_
      refine xc_seq ?_
      refine xc_region ?_
      refine xo_rd (rd_assign rfl) rfl ?_
      refine xo_nil ?_
      refine xq_seq ?_
      refine xc_ret ?_
    refine xq_ret1 (.inl rfl) Tryz.results103 rfl ⟨?_, rfl⟩
    rw [ixP_none (fun i h => hno i h (by omega))]
def farI (x : Int) : Bool := decide (x < 0) || decide (2147483647 < x)
theorem xf_far {W : World} {L : List Blk} (x : Int) : XF Tryz.prog W 93 #[.int .i64 x] L (fun v L' => v = .bool (farI x) ∧ L' = L) := by
  unfold farI
  refine xf_enter (args := [_]) Tryz.func93 rfl Tryz.ntmps93 rfl ?_
  focus
    refine xc_seq ?_
    refine xc_region ?_
    refine xo_rd (rd_assign rfl) rfl ?_
    refine xo_nil ?_
    refine xq_seq ?_
    refine xc_seq ?_
    refine xc_region ?_
    refine xo_rd (rd_move rfl) rfl ?_
    refine xo_rd (rd_lss rfl rfl) rfl ?_
    refine xo_rd (rd_move rfl) rfl ?_
    refine xo_dec 5 rfl (fun hz1 => ?_) (fun hz1 => ?_)
    refine xo_gskip rfl rfl rfl rfl ?_
    refine xo_gskip rfl rfl rfl rfl ?_
    refine xo_rd (rd_pickt rfl rfl) rfl ?_
    refine xo_rd (rd_assign rfl) rfl ?_
    refine xo_nil ?_
    refine xq_seq ?_
    refine xc_ret ?_
    rotate_left
    refine xo_grd rfl rfl (rd_move rfl) rfl ?_
    refine xo_grd rfl rfl (rd_gtr rfl rfl) rfl ?_
    refine xo_rd (rd_pickf rfl rfl) rfl ?_
    refine xo_rd (rd_assign rfl) rfl ?_
    refine xo_nil ?_
    refine xq_seq ?_
    refine xc_ret ?_
    rotate_left
  all_goals exact xq_ret1 (.inl rfl) Tryz.results93 rfl ⟨by first | (rw [decide_eq_true (show x < 0 by omega)]; rfl) | (rw [decide_eq_false (show ¬ x < 0 by omega)]; rfl), rfl⟩
theorem ixP_any (pd : Int → Bool) (l : List Int) : decide (0 ≤ ixP pd l) = l.any pd := by
  cases h : l.any pd with
  | true =>
    refine decide_eq_true ?_
    by_cases hn : ixP pd l = -1
    · obtain ⟨x, hx, hp⟩ := List.any_eq_true.1 h
      have := ixP_neg hn
      rw [List.filter_eq_self] at this
      have := this x hx
      rw [hp] at this; cases this
    · obtain ⟨k, hk, _⟩ := ixP_pos hn
      omega
  | false =>
    refine decide_eq_false ?_
    rw [ixP_none fun i hi => by simpa using (List.any_eq_false.1 h) l[i] (List.getElem_mem _)]
    decide
theorem xf_may {W : World} {L : List Blk} (r : Nat) (p : Option Addr) (n c : Nat) (l : List Int) (hn : l.length = n) (hr : Rs W L p (ints .i64 l)) (hm : n ≤ 1000000000) (b : Bool) (hb : l.any farI = b) : XF Tryz.prog W 58 #[.pointer (some ⟨r, 0, none⟩), .slice p n c] L (fun v L' => v = .int .i64 (if b = true then 130 else 0) ∧ L' = L) := by
  have hcf : XF Tryz.prog W 92 #[.slice p n c, .func (.func 93) #[] #[]] L (fun v L' => v = .bool b ∧ L' = L) := by
    rw [← hb, ← ixP_any]
    refine xf_enter (args := [_, _]) Tryz.func92 rfl Tryz.ntmps92 rfl ?_
    focus
      refine xc_seq ?_
      refine xc_region ?_
      refine xo_rd (rd_assign rfl) rfl ?_
      refine xo_nil ?_
      refine xq_seq ?_
      refine xc_seq ?_
      refine xc_region ?_
      refine xo_rd (rd_move rfl) rfl ?_
      refine xo_rd (rd_move rfl) rfl ?_
      refine xo_ef rfl (ef_call rfl (XF.mono (xf_ixi63 p n c l farI hn hr hm (fun x _ => xf_far x)) ?_))
      rintro v L' ⟨rfl, rfl⟩
      refine xo_rd (rd_geq rfl rfl) rfl ?_
      refine xo_rd (rd_assign rfl) rfl ?_
      refine xo_nil ?_
      refine xq_seq ?_
      refine xc_ret ?_
      exact xq_ret1 (.inl rfl) Tryz.results92 rfl (⟨rfl, rfl⟩)
  refine xf_enter (args := [_, _]) Tryz.func58 rfl Tryz.ntmps58 rfl ?_
  cases b with
  | true =>
    focus
      refine xc_seq ?_
      refine xc_region ?_
      refine xo_rd (rd_assign rfl) rfl ?_
      refine xo_nil ?_
      refine xq_seq ?_
      refine xc_seq ?_
      refine xc_block ?_
      refine xc_seq ?_
      refine xc_region ?_
      refine xo_rd (rd_move rfl) rfl ?_
      refine xo_rd (rd_eqnil rfl) rfl ?_
      refine xo_rd (rd_assign rfl) rfl ?_
      refine xo_nil ?_
      refine xq_seq ?_
      refine xc_condf rfl ?_
      refine xc_seq ?_
      refine xc_region ?_
      refine xo_rd (rd_move rfl) rfl ?_
      refine xo_ef rfl (ef_call rfl (XF.mono (hcf) ?_))
      rintro v L' ⟨rfl, rfl⟩
      refine xo_rd (rd_assign rfl) rfl ?_
      refine xo_nil ?_
      refine xq_seq ?_
      refine xc_condt rfl ?_
      refine xc_seq ?_
      refine xc_region ?_
      refine xo_rd (rd_assign rfl) rfl ?_
      refine xo_nil ?_
      refine xq_seq ?_
      refine xc_ret ?_
      refine xq_block_ret ?_
      refine xq_then_ret ?_
    exact xq_ret1 (.inl rfl) Tryz.results58 rfl ⟨rfl, rfl⟩
  | false =>
    focus
      refine xc_seq ?_
      refine xc_region ?_
      refine xo_rd (rd_assign rfl) rfl ?_
      refine xo_nil ?_
      refine xq_seq ?_
      refine xc_seq ?_
      refine xc_block ?_
      refine xc_seq ?_
      refine xc_region ?_
      refine xo_rd (rd_move rfl) rfl ?_
      refine xo_rd (rd_eqnil rfl) rfl ?_
      refine xo_rd (rd_assign rfl) rfl ?_
      refine xo_nil ?_
      refine xq_seq ?_
      refine xc_condf rfl ?_
      refine xc_seq ?_
      refine xc_region ?_
      refine xo_rd (rd_move rfl) rfl ?_
      refine xo_ef rfl (ef_call rfl (XF.mono (hcf) ?_))
      rintro v L' ⟨rfl, rfl⟩
      refine xo_rd (rd_assign rfl) rfl ?_
      refine xo_nil ?_
      refine xq_seq ?_
      refine xc_condf rfl ?_
      refine xc_skip ?_
      refine xq_block ?_
      refine xq_seq ?_
      refine xc_seq ?_
      refine xc_region ?_
      refine xo_rd (rd_assign rfl) rfl ?_
      refine xo_nil ?_
      refine xq_seq ?_
      refine xc_ret ?_
    exact xq_ret1 (.inl rfl) Tryz.results58 rfl ⟨rfl, rfl⟩
end Go.Proofs.YtmdeajdaeihniaaGreat.X
