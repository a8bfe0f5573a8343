/-
  Texts of my own, put together: walks and laws for this seat. No condition.
-/
import Derived.Test.YtpheiklhjelkcaaZ4
/-
  Chapter 19: two notes, as one; an entry copied; a queue made: walks of my own.
-/
namespace Go.Proofs.Ytpheiklhjelkcaa.X
open Go Go.RowKit
set_option linter.unusedVariables false
set_option linter.unusedSimpArgs false
def En.joined (e x : En) : En := match e.i.kn && x.i.kn with
  | true => ⟨e.g, e.s, ⟨true, true, if x.i.ti < e.i.ti then x.i.ti else e.i.ti, e.i.dr && x.i.dr, zFr⟩⟩
  | false => ⟨e.g, e.s, ⟨true, false, 0, false, zFr⟩⟩
theorem En.joined_a (e x : En) : (e.joined x).a = e.a.joined x.a := by
  unfold En.joined Ea.joined En.a
  dsimp only
  cases e.i.kn <;> cases x.i.kn <;> rfl
theorem En.joined_f (e x : En) : (e.joined x).i.f = zFr := by
  unfold En.joined; split <;> rfl
set_option maxHeartbeats 1600000 in
theorem xf_joined {W : World} {L : List Blk} (e x : En) : XF Try.prog W 77 #[.agg e.enc.toArray, .agg x.enc.toArray] L (fun v L' => v = .agg (e.joined x).enc.toArray ∧ L' = L) := by
  refine xf_enter (args := [_, _]) Try.func77 rfl Try.ntmps77 rfl ?_
  focus
    refine xc_seq ?_
    refine xc_region ?_
    refine xo_ef rfl (ef_box rfl fun r2 => ?_)
    refine xo_ef rfl (ef_box rfl fun r3 => ?_)
    refine xo_ef rfl (ef_alloc fun r4 => ?_)
    refine xo_nil ?_
    refine xq_seq ?_
  refine xc_join (ι := Nat × Nat) (fun _ => True) (fun s => (s.2, .cells x.i.enc.toArray 43 (0, 0)) :: (s.1, .cells e.i.enc.toArray 43 (0, 0)) :: (r4, .cells (En.enc ⟨0, 0, ⟨false, false, 0, false, zFr⟩⟩).toArray 45 (0, 0)) :: (r3, .cells x.enc.toArray 45 (0, 0)) :: (r2, .cells e.enc.toArray 45 (0, 0)) :: L) (fun s => [(2, .pointer (some ⟨r2, 0, none⟩)), (3, .pointer (some ⟨r3, 0, none⟩)), (4, .pointer (some ⟨r4, 0, none⟩)), (5, .pointer (some ⟨s.1, 0, none⟩)), (6, .pointer (some ⟨s.2, 0, none⟩))]) ?_ ?_
  · focus
      refine xc_drawM [0, 1, 0, 4, 0, 0, 51, 127] [0, 1, 0, 4, 0, 0, 51, 127] ([(r3, .cells x.enc.toArray 45 (0, 0)), (r2, .cells e.enc.toArray 45 (0, 0))]) (by kernel_rfl) (by kernel_rfl) (by kernel_rfl) ?_
      refine xm_take 0 (m' := 1) rfl (by kernel_rfl) (by first | exact Sb.refl | exact Sb.nil | (repeat (first | exact Sb.nil | exact Sb.refl | exact Sb.app0 | apply Sb.keep | apply Sb.keepApp | apply Sb.cons | apply Sb.app))) (rd_fieldAddr rfl) rfl (by kernel_rfl) ?_
      refine xm_take 1 (m' := 3) rfl (by kernel_rfl) (by first | exact Sb.refl | exact Sb.nil | (repeat (first | exact Sb.nil | exact Sb.refl | exact Sb.app0 | apply Sb.keep | apply Sb.keepApp | apply Sb.cons | apply Sb.app))) (rd_loadA (vs := e.i.enc) rfl rfl (cl_sub (b := r2) (vs := e.enc) (T := 45) (fr := (0, 0)) _ (by first | exact List.Mem.head _ | exact List.Mem.tail _ (List.Mem.head _) | exact List.Mem.tail _ (List.Mem.tail _ (List.Mem.head _)) | exact List.Mem.tail _ (List.Mem.tail _ (List.Mem.tail _ (List.Mem.head _))) | exact List.Mem.tail _ (List.Mem.tail _ (List.Mem.tail _ (List.Mem.tail _ (List.Mem.head _)))) | exact List.Mem.tail _ (List.Mem.tail _ (List.Mem.tail _ (List.Mem.tail _ (List.Mem.tail _ (List.Mem.head _))))) | exact List.Mem.tail _ (List.Mem.tail _ (List.Mem.tail _ (List.Mem.tail _ (List.Mem.tail _ (List.Mem.tail _ (List.Mem.head _)))))) | exact List.Mem.tail _ (List.Mem.tail _ (List.Mem.tail _ (List.Mem.tail _ (List.Mem.tail _ (List.Mem.tail _ (List.Mem.tail _ (List.Mem.head _)))))))) rfl)) rfl (by kernel_rfl) ?_
      refine xm_take 2 (m' := 7) rfl (by kernel_rfl) (by first | exact Sb.refl | exact Sb.nil | (repeat (first | exact Sb.nil | exact Sb.refl | exact Sb.app0 | apply Sb.keep | apply Sb.keepApp | apply Sb.cons | apply Sb.app))) (rd_fieldAddr rfl) rfl (by kernel_rfl) ?_
      refine xm_take 3 (m' := 15) rfl (by kernel_rfl) (by first | exact Sb.refl | exact Sb.nil | (repeat (first | exact Sb.nil | exact Sb.refl | exact Sb.app0 | apply Sb.keep | apply Sb.keepApp | apply Sb.cons | apply Sb.app))) (rd_loadA (vs := x.i.enc) rfl rfl (cl_sub (b := r3) (vs := x.enc) (T := 45) (fr := (0, 0)) _ (by first | exact List.Mem.head _ | exact List.Mem.tail _ (List.Mem.head _) | exact List.Mem.tail _ (List.Mem.tail _ (List.Mem.head _)) | exact List.Mem.tail _ (List.Mem.tail _ (List.Mem.tail _ (List.Mem.head _))) | exact List.Mem.tail _ (List.Mem.tail _ (List.Mem.tail _ (List.Mem.tail _ (List.Mem.head _)))) | exact List.Mem.tail _ (List.Mem.tail _ (List.Mem.tail _ (List.Mem.tail _ (List.Mem.tail _ (List.Mem.head _))))) | exact List.Mem.tail _ (List.Mem.tail _ (List.Mem.tail _ (List.Mem.tail _ (List.Mem.tail _ (List.Mem.tail _ (List.Mem.head _)))))) | exact List.Mem.tail _ (List.Mem.tail _ (List.Mem.tail _ (List.Mem.tail _ (List.Mem.tail _ (List.Mem.tail _ (List.Mem.tail _ (List.Mem.head _)))))))) rfl)) rfl (by kernel_rfl) ?_
      refine xm_two 4 5 (mi := 31) (mk := 47) rfl rfl (by kernel_rfl) rfl rfl (by kernel_rfl) (by kernel_rfl) (ef_alloc fun r5 => ⟨(by first | exact Sb.refl | exact Sb.nil | (repeat (first | exact Sb.nil | exact Sb.refl | exact Sb.app0 | apply Sb.keep | apply Sb.keepApp | apply Sb.cons | apply Sb.app))), ?_⟩) (ef_alloc fun r6 => ⟨(by first | exact Sb.refl | exact Sb.nil | (repeat (first | exact Sb.nil | exact Sb.refl | exact Sb.app0 | apply Sb.keep | apply Sb.keepApp | apply Sb.cons | apply Sb.app))), ?_⟩)
      refine xm_one 5 (m' := 63) rfl (by kernel_rfl) rfl (by kernel_rfl) (ef_alloc fun r6 => ?_)
      refine ⟨(by first | exact Sb.refl | exact Sb.nil | (repeat (first | exact Sb.nil | exact Sb.refl | exact Sb.app0 | apply Sb.keep | apply Sb.keepApp | apply Sb.cons | apply Sb.app))), ?_⟩
      refine xm_one 6 (m' := 127) rfl (by kernel_rfl) rfl (by kernel_rfl) (ef_storeB [_] _ rfl rfl (by first | rfl | assumption) rfl rfl rfl ?_)
      refine ⟨(by first | exact Sb.refl | exact Sb.nil | (repeat (first | exact Sb.nil | exact Sb.refl | exact Sb.app0 | apply Sb.keep | apply Sb.keepApp | apply Sb.cons | apply Sb.app))), ?_⟩
      refine xm_one 7 (m' := 255) rfl (by kernel_rfl) rfl (by kernel_rfl) (ef_storeB [] _ rfl rfl (by first | rfl | assumption) rfl rfl rfl ?_)
      refine ⟨(by first | exact Sb.refl | exact Sb.nil | (repeat (first | exact Sb.nil | exact Sb.refl | exact Sb.app0 | apply Sb.keep | apply Sb.keepApp | apply Sb.cons | apply Sb.app))), ?_⟩
      refine xm_done (by kernel_rfl) ?_
      rotate_left
      refine xm_one 4 (m' := 63) rfl (by kernel_rfl) rfl (by kernel_rfl) (ef_alloc fun r5 => ?_)
      refine ⟨(by first | exact Sb.refl | exact Sb.nil | (repeat (first | exact Sb.nil | exact Sb.refl | exact Sb.app0 | apply Sb.keep | apply Sb.keepApp | apply Sb.cons | apply Sb.app))), ?_⟩
      refine xm_one 6 (m' := 127) rfl (by kernel_rfl) rfl (by kernel_rfl) (ef_storeB [] _ rfl rfl (by first | rfl | assumption) rfl rfl rfl ?_)
      refine ⟨(by first | exact Sb.refl | exact Sb.nil | (repeat (first | exact Sb.nil | exact Sb.refl | exact Sb.app0 | apply Sb.keep | apply Sb.keepApp | apply Sb.cons | apply Sb.app))), ?_⟩
      refine xm_one 7 (m' := 255) rfl (by kernel_rfl) rfl (by kernel_rfl) (ef_storeB [_] _ rfl rfl (by first | rfl | assumption) rfl rfl rfl ?_)
      refine ⟨(by first | exact Sb.refl | exact Sb.nil | (repeat (first | exact Sb.nil | exact Sb.refl | exact Sb.app0 | apply Sb.keep | apply Sb.keepApp | apply Sb.cons | apply Sb.app))), ?_⟩
      refine xm_done (by kernel_rfl) ?_
      rotate_left
    · exact xq_joined (r5, r6) trivial rfl (by repeat (first | exact keep_nil | refine keep_cons rfl ?_))
    · exact xq_perm (List.Perm.swap _ _ _) (xq_joined (r5, r6) trivial rfl (by repeat (first | exact keep_nil | refine keep_cons rfl ?_)))
  rintro ⟨r5, r6⟩ _
  dsimp only
  obtain ⟨jt, hjt⟩ : ∃ y, e.joined x = y := ⟨_, rfl⟩
  rw [hjt]
  focus
    refine xc_seq ?_
    refine xc_region ?_
    refine xo_rd (rd_cast (v' := .agg (It.enc ⟨true, false, 0, false, zFr⟩).toArray) (rd_build (T := 43) (parts := [(0, .const (.bool true))]) rfl rfl rfl) (by kernel_rfl)) rfl ?_
    refine xo_ef rfl (ef_alloc fun r7 => ?_)
    refine xo_ef rfl (ef_storeB [] _ rfl rfl (by first | rfl | assumption) rfl rfl rfl ?_)
    refine xo_nil ?_
    refine xq_seq ?_
    refine xc_seq ?_
    refine xc_seq ?_
    refine xc_region ?_
    refine xo_rd (rd_fieldAddr rfl) rfl ?_
    refine xo_rd (rd_load1 rfl (Cl.o2 rfl)) rfl ?_
    refine xo_rd (rd_move rfl) rfl ?_
    refine xo_split 15 rfl (fun hz1 => ?_) (fun hz1 => ?_)
    refine xo_grd rfl rfl (rd_fieldAddr rfl) rfl ?_
    refine xo_grd rfl rfl (rd_load1 rfl (Cl.o1 rfl)) rfl ?_
    refine xo_rd (rd_pickt rfl rfl) rfl ?_
    refine xo_nil ?_
    refine xq_seq ?_
    refine xc_cond rfl (fun hz2 => ?_) (fun hz2 => ?_)
    refine xc_region ?_
    refine xo_rd (rd_fieldAddr rfl) rfl ?_
    refine xo_rd (rd_load1 rfl (Cl.o2 rfl)) rfl ?_
    refine xo_rd (rd_fieldAddr rfl) rfl ?_
    refine xo_rd (rd_load1 rfl (Cl.o1 rfl)) rfl ?_
    refine xo_rd (rd_min rfl rfl) rfl ?_
    refine xo_rd (rd_fieldAddr rfl) rfl ?_
    refine xo_rd (rd_load1 rfl (Cl.o2 rfl)) rfl ?_
    refine xo_rd (rd_move rfl) rfl ?_
    refine xo_split 26 rfl (fun hz3 => ?_) (fun hz3 => ?_)
    refine xo_grd rfl rfl (rd_fieldAddr rfl) rfl ?_
    refine xo_grd rfl rfl (rd_load1 rfl (Cl.o1 rfl)) rfl ?_
    refine xo_rd (rd_pickt rfl rfl) rfl ?_
    refine xo_rd (rd_build rfl rfl rfl) rfl ?_
    refine xo_ef rfl (ef_storeB [] _ rfl rfl (by first | rfl | assumption) rfl rfl rfl ?_)
    refine xo_nil ?_
    refine xq_seq ?_
    refine xc_seq ?_
    refine xc_region ?_
    refine xo_rd (rd_loadB rfl Kn.o0 (by rfl)) rfl ?_
    refine xo_rd (rd_fieldAddr rfl) rfl ?_
    rotate_left
    refine xo_gskip rfl rfl rfl rfl ?_
    refine xo_gskip rfl rfl rfl rfl ?_
    refine xo_rd (rd_pickf rfl rfl) rfl ?_
    refine xo_rd (rd_build rfl rfl rfl) rfl ?_
    refine xo_ef rfl (ef_storeB [] _ rfl rfl (by first | rfl | assumption) rfl rfl rfl ?_)
    refine xo_nil ?_
    refine xq_seq ?_
    refine xc_seq ?_
    refine xc_region ?_
    refine xo_rd (rd_loadB rfl Kn.o0 (by rfl)) rfl ?_
    refine xo_rd (rd_fieldAddr rfl) rfl ?_
    rotate_left
    refine xc_skip ?_
    refine xq_seq ?_
    refine xc_seq ?_
    refine xc_region ?_
    refine xo_rd (rd_loadB rfl Kn.o0 (by rfl)) rfl ?_
    refine xo_rd (rd_fieldAddr rfl) rfl ?_
    rotate_left
    refine xo_gskip rfl rfl rfl rfl ?_
    refine xo_gskip rfl rfl rfl rfl ?_
    refine xo_rd (rd_pickf rfl rfl) rfl ?_
    refine xo_nil ?_
    refine xq_seq ?_
    refine xc_condf rfl ?_
    refine xc_skip ?_
    refine xq_seq ?_
    refine xc_seq ?_
    refine xc_region ?_
    refine xo_rd (rd_loadB rfl Kn.o0 (by rfl)) rfl ?_
    refine xo_rd (rd_fieldAddr rfl) rfl ?_
    rotate_left
  · refine xo_ef rfl (ef_storeW [_, _, _, _, _] L 2 (vs := It.enc ⟨true, true, (if x.i.ti < e.i.ti then x.i.ti else e.i.ti), x.i.dr, zFr⟩) (cs := e.enc) (ws := En.enc ⟨e.g, e.s, ⟨true, true, (if x.i.ti < e.i.ti then x.i.ti else e.i.ti), x.i.dr, zFr⟩⟩) rfl (by kernel_rfl) rfl rfl rfl (by rw [En.len, It.len]; decide) (by kernel_rfl) ?_)
    focus
      refine xo_nil ?_
      refine xq_seq ?_
      refine xc_seq ?_
      refine xc_region ?_
      refine xo_rd (rd_loadB rfl Kn.o5 (by rfl)) rfl ?_
      refine xo_ef rfl (ef_storeB [_, _, _] _ rfl rfl (by first | rfl | assumption) rfl rfl rfl ?_)
      refine xo_nil ?_
      refine xq_seq ?_
      refine xc_ret ?_
    refine xq_retB (.inl rfl) Try.results77 rfl Kn.o3 rfl (List.sublist_append_right [_, _, _, _, _, _] _) ⟨?_, rfl⟩
    rw [← hjt]; unfold En.joined; rw [hz1, hz2, hz3]; rfl
  · refine xo_ef rfl (ef_storeW [_, _, _, _, _] L 2 (vs := It.enc ⟨true, true, (if x.i.ti < e.i.ti then x.i.ti else e.i.ti), false, zFr⟩) (cs := e.enc) (ws := En.enc ⟨e.g, e.s, ⟨true, true, (if x.i.ti < e.i.ti then x.i.ti else e.i.ti), false, zFr⟩⟩) rfl (by kernel_rfl) rfl rfl rfl (by rw [En.len, It.len]; decide) (by kernel_rfl) ?_)
    focus
      refine xo_nil ?_
      refine xq_seq ?_
      refine xc_seq ?_
      refine xc_region ?_
      refine xo_rd (rd_loadB rfl Kn.o5 (by rfl)) rfl ?_
      refine xo_ef rfl (ef_storeB [_, _, _] _ rfl rfl (by first | rfl | assumption) rfl rfl rfl ?_)
      refine xo_nil ?_
      refine xq_seq ?_
      refine xc_ret ?_
    refine xq_retB (.inl rfl) Try.results77 rfl Kn.o3 rfl (List.sublist_append_right [_, _, _, _, _, _] _) ⟨?_, rfl⟩
    rw [← hjt]; unfold En.joined; rw [hz1, hz2, hz3]; rfl
  · refine xo_ef rfl (ef_storeW [_, _, _, _, _] L 2 (vs := It.enc ⟨true, false, 0, false, zFr⟩) (cs := e.enc) (ws := En.enc ⟨e.g, e.s, ⟨true, false, 0, false, zFr⟩⟩) rfl (by kernel_rfl) rfl rfl rfl (by rw [En.len, It.len]; decide) (by kernel_rfl) ?_)
    focus
      refine xo_nil ?_
      refine xq_seq ?_
      refine xc_seq ?_
      refine xc_region ?_
      refine xo_rd (rd_loadB rfl Kn.o5 (by rfl)) rfl ?_
      refine xo_ef rfl (ef_storeB [_, _, _] _ rfl rfl (by first | rfl | assumption) rfl rfl rfl ?_)
      refine xo_nil ?_
      refine xq_seq ?_
      refine xc_ret ?_
    refine xq_retB (.inl rfl) Try.results77 rfl Kn.o3 rfl (List.sublist_append_right [_, _, _, _, _, _] _) ⟨?_, rfl⟩
    rw [← hjt]; unfold En.joined; rw [hz1, hz2]; rfl
  · refine xo_ef rfl (ef_storeW [_, _, _, _, _] L 2 (vs := It.enc ⟨true, false, 0, false, zFr⟩) (cs := e.enc) (ws := En.enc ⟨e.g, e.s, ⟨true, false, 0, false, zFr⟩⟩) rfl (by kernel_rfl) rfl rfl rfl (by rw [En.len, It.len]; decide) (by kernel_rfl) ?_)
    focus
      refine xo_nil ?_
      refine xq_seq ?_
      refine xc_seq ?_
      refine xc_region ?_
      refine xo_rd (rd_loadB rfl Kn.o5 (by rfl)) rfl ?_
      refine xo_ef rfl (ef_storeB [_, _, _] _ rfl rfl (by first | rfl | assumption) rfl rfl rfl ?_)
      refine xo_nil ?_
      refine xq_seq ?_
      refine xc_ret ?_
    refine xq_retB (.inl rfl) Try.results77 rfl Kn.o3 rfl (List.sublist_append_right [_, _, _, _, _, _] _) ⟨?_, rfl⟩
    rw [← hjt]; unfold En.joined; rw [hz1]; rfl
/-- copied: the same entry, in new memory. -/
theorem xf_copied {W : World} {L : List Blk} (e : En) (hx : e.i.f.At W L) (hf : e.i.f.Few) : XF Try.prog W 58 #[.agg e.enc.toArray] L (fun v L' => ∃ y : En, v = .agg y.enc.toArray ∧ y.a = e.a ∧ y.i.f.Ok 116 ∧ L' = y.i.f.bl ++ L) := by
  refine xf_enter (args := [_]) Try.func58 rfl Try.ntmps58 rfl ?_
  focus
    refine xc_seq ?_
    refine xc_region ?_
    refine xo_ef rfl (ef_box rfl fun r1 => ?_)
    refine xo_ef rfl (ef_alloc fun r2 => ?_)
    refine xo_nil ?_
    refine xq_seq ?_
    refine xc_seq ?_
    refine xc_region ?_
    refine xo_rd (rd_fieldAddr rfl) rfl ?_
    refine xo_rd (rd_fieldAddr rfl) rfl ?_
    refine xo_rd (rd_loadA (vs := e.i.f.enc) rfl rfl (cl_sub (b := r1) (vs := e.enc) (T := 45) (fr := (0, 0)) _ (by first | exact List.Mem.head _ | exact List.Mem.tail _ (List.Mem.head _) | exact List.Mem.tail _ (List.Mem.tail _ (List.Mem.head _)) | exact List.Mem.tail _ (List.Mem.tail _ (List.Mem.tail _ (List.Mem.head _))) | exact List.Mem.tail _ (List.Mem.tail _ (List.Mem.tail _ (List.Mem.tail _ (List.Mem.head _)))) | exact List.Mem.tail _ (List.Mem.tail _ (List.Mem.tail _ (List.Mem.tail _ (List.Mem.tail _ (List.Mem.head _))))) | exact List.Mem.tail _ (List.Mem.tail _ (List.Mem.tail _ (List.Mem.tail _ (List.Mem.tail _ (List.Mem.tail _ (List.Mem.head _)))))) | exact List.Mem.tail _ (List.Mem.tail _ (List.Mem.tail _ (List.Mem.tail _ (List.Mem.tail _ (List.Mem.tail _ (List.Mem.tail _ (List.Mem.head _)))))))) rfl)) rfl ?_
    refine xo_ef rfl (ef_call rfl (XF.mono (xf_Copy e.i.f (hx.mono (by intro z hz; simp [hz])) hf) ?_))
    rintro v L' ⟨y, rfl, hya, hyo, rfl⟩
    refine xo_seg [_, _] y.bl _ ?_
    refine xo_rd (rd_fieldAddr rfl) rfl ?_
    refine xo_rd (rd_fieldAddr rfl) rfl ?_
  refine xo_ef rfl (ef_storeW [_] (y.bl ++ L) 6 (vs := y.enc) (cs := e.enc) (ws := En.enc ⟨e.g, e.s, ⟨e.i.lo, e.i.kn, e.i.ti, e.i.dr, y⟩⟩) rfl rfl rfl rfl rfl (by rw [En.len, Fr.len]; decide) (by kernel_rfl) ?_)
  focus
    refine xo_nil ?_
    refine xq_seq ?_
    refine xc_seq ?_
    refine xc_region ?_
    refine xo_rd (rd_loadB rfl Kn.o1 (by rfl)) rfl ?_
    refine xo_ef rfl (ef_storeB [] _ rfl rfl (by first | rfl | assumption) rfl rfl rfl ?_)
    refine xo_nil ?_
    refine xq_seq ?_
    refine xc_ret ?_
  exact xq_retB (.inl rfl) Try.results58 rfl Kn.o0 rfl (List.sublist_append_right [_, _] _) ⟨⟨e.g, e.s, ⟨e.i.lo, e.i.kn, e.i.ti, e.i.dr, y⟩⟩, rfl, by unfold En.a; dsimp only; rw [hya], hyo, rfl⟩
/-- New, of a bound that may be. -/
theorem xf_New {W : World} {L : List Blk} (b : Int) (ca : Bool) (hb : 1 ≤ b ∧ b ≤ 256) : XF Try.prog W 10 #[.int .i64 b, .bool ca] L (fun v L' => ∃ r, v = .tuple #[.pointer (some ⟨r, 0, none⟩), .int .i64 0] ∧ L' = (Qs.mk r b ca false [] none 0 []).blks ++ L) := by
  refine xf_enter (args := [_, _]) Try.func10 rfl Try.ntmps10 rfl ?_
  focus
    refine xc_seq ?_
    refine xc_region ?_
    refine xo_rd (rd_assign rfl) rfl ?_
    refine xo_rd (rd_assign rfl) rfl ?_
    refine xo_nil ?_
    refine xq_seq ?_
    refine xc_seq ?_
    refine xc_region ?_
    refine xo_rd (rd_move rfl) rfl ?_
    refine xo_rd (rd_build rfl rfl rfl) rfl ?_
    refine xo_ef rfl (ef_alloc fun r6 => ?_)
    refine xo_ef rfl (ef_storeB [] _ rfl rfl (by first | rfl | assumption) rfl rfl rfl ?_)
    refine xo_nil ?_
    refine xq_seq ?_
    refine xc_seq ?_
    refine xc_seq ?_
    refine xc_region ?_
    refine xo_rd (rd_loadB rfl Kn.o0 (by rfl)) rfl ?_
    refine xo_ef rfl (ef_call rfl (XF.mono (xf_right b) ?_))
    rintro v L' ⟨rfl, rfl⟩
    refine xo_rd (rd_not rfl) rfl ?_
    refine xo_nil ?_
    refine xq_seq ?_
    refine xc_cond rfl (fun hz1 => ?_) (fun hz1 => ?_)
    refine xc_seq ?_
    refine xc_region ?_
    refine xo_rd (rd_assign rfl) rfl ?_
    refine xo_rd (rd_assign rfl) rfl ?_
    refine xo_nil ?_
    refine xq_seq ?_
    refine xc_ret ?_
    refine xq_then_ret ?_
    rotate_left
    refine xc_skip ?_
    refine xq_seq ?_
    refine xc_seq ?_
    refine xc_region ?_
    refine xo_rd (rd_loadB rfl Kn.o0 (by rfl)) rfl ?_
    refine xo_rd (rd_move rfl) rfl ?_
    refine xo_rd (rd_build rfl rfl rfl) rfl ?_
    refine xo_ef rfl (ef_box rfl fun r15 => ?_)
    refine xo_rd (rd_assign rfl) rfl ?_
    refine xo_rd (rd_assign rfl) rfl ?_
    refine xo_nil ?_
    refine xq_seq ?_
    refine xc_ret ?_
    rotate_left
  · exfalso
    rw [decide_eq_true hb.1, decide_eq_true hb.2] at hz1
    cases hz1
  · refine xq_sub (L' := (Qs.mk r15 b ca false [] none 0 []).blks ++ L) (List.Sublist.cons_cons _ (List.sublist_cons_self _ _)) (xq_ret2 (.inl rfl) Try.results10 rfl rfl ⟨r15, rfl, rfl⟩)
theorem xf_New0 {W : World} {L : List Blk} (b : Int) (ca : Bool) (hb : ¬ (1 ≤ b ∧ b ≤ 256)) : XF Try.prog W 10 #[.int .i64 b, .bool ca] L (fun v L' => v = .tuple #[.pointer none, .int .i64 2] ∧ L' = L) := by
  refine xf_enter (args := [_, _]) Try.func10 rfl Try.ntmps10 rfl ?_
  focus
    refine xc_seq ?_
    refine xc_region ?_
    refine xo_rd (rd_assign rfl) rfl ?_
    refine xo_rd (rd_assign rfl) rfl ?_
    refine xo_nil ?_
    refine xq_seq ?_
    refine xc_seq ?_
    refine xc_region ?_
    refine xo_rd (rd_move rfl) rfl ?_
    refine xo_rd (rd_build rfl rfl rfl) rfl ?_
    refine xo_ef rfl (ef_alloc fun r6 => ?_)
    refine xo_ef rfl (ef_storeB [] _ rfl rfl (by first | rfl | assumption) rfl rfl rfl ?_)
    refine xo_nil ?_
    refine xq_seq ?_
    refine xc_seq ?_
    refine xc_seq ?_
    refine xc_region ?_
    refine xo_rd (rd_loadB rfl Kn.o0 (by rfl)) rfl ?_
    refine xo_ef rfl (ef_call rfl (XF.mono (xf_right b) ?_))
    rintro v L' ⟨rfl, rfl⟩
    refine xo_rd (rd_not rfl) rfl ?_
    refine xo_nil ?_
    refine xq_seq ?_
    refine xc_cond rfl (fun hz1 => ?_) (fun hz1 => ?_)
    refine xc_seq ?_
    refine xc_region ?_
    refine xo_rd (rd_assign rfl) rfl ?_
    refine xo_rd (rd_assign rfl) rfl ?_
    refine xo_nil ?_
    refine xq_seq ?_
    refine xc_ret ?_
    refine xq_then_ret ?_
    rotate_left
    refine xc_skip ?_
    refine xq_seq ?_
    refine xc_seq ?_
    refine xc_region ?_
    refine xo_rd (rd_loadB rfl Kn.o0 (by rfl)) rfl ?_
    refine xo_rd (rd_move rfl) rfl ?_
    refine xo_rd (rd_build rfl rfl rfl) rfl ?_
    refine xo_ef rfl (ef_box rfl fun r15 => ?_)
    refine xo_rd (rd_assign rfl) rfl ?_
    refine xo_rd (rd_assign rfl) rfl ?_
    refine xo_nil ?_
    refine xq_seq ?_
    refine xc_ret ?_
    rotate_left
  · exact xq_sub (List.sublist_cons_self _ _) (xq_ret2 (.inl rfl) Try.results10 rfl rfl ⟨rfl, rfl⟩)
  · exfalso
    apply hb
    simpa using hz1
end Go.Proofs.Ytpheiklhjelkcaa.X
/-
  Chapter 19: an entry is taken out of a row; notes are made one: walks of my own.
-/
namespace Go.Proofs.Ytpheiklhjelkcaa.X
open Go Go.RowKit
set_option linter.unusedVariables false
set_option linter.unusedSimpArgs false
theorem xf_delete {W : World} {R : List Blk} (p : Option Addr) (m c i : Nat) (xs : List Value) (l : List Blk) (hO : SlQ 17 45 (.slice p m c) m xs l) (h1 : xs.all (·.oneCell') = true) (hi : i < m) (hm : m ≤ 1000000000) :
    XF Try.prog W 78 #[.slice p m c, .int .i64 i, .int .i64 (i + 1)] (l ++ R) (fun v L' => ∃ l', v = .slice p (m - 1) c ∧ SlQ 17 45 (.slice p (m - 1) c) (m - 1) (xs.take (i * 17) ++ xs.drop ((i + 1) * 17)) l' ∧ L' = l' ++ R) := by
  have hlen := hO.len
  have hmc : m ≤ c := by obtain ⟨_, _, hv, _, h⟩ := hO.opn; simp only [Value.slice.injEq] at hv; omega
  have hsl : Rs W (l ++ R) p xs := hO.rsl
  obtain ⟨b, o, rfl, _⟩ := hsl 0 _ (List.getElem?_eq_getElem (by omega))
  have hpre := hO.pre i (by omega)
  have hcut := hO.cut (i + 1) (by omega)
  have hd1 : (xs.drop ((i + 1) * 17)).all (·.oneCell') = true := List.all_eq_true.2 fun u hu => List.all_eq_true.1 h1 u (List.mem_of_mem_drop hu)
  have hdl : (xs.drop ((i + 1) * 17)).length = (m - (i + 1)) * 17 := by rw [List.length_drop, hlen, Nat.sub_mul]
  have e1 : ((i : Int) + 1).toNat = i + 1 := by omega
  have e0 : (i : Int).toNat = i := by omega
  refine xf_enter (args := [_, _, _]) Try.func78 rfl Try.ntmps78 rfl ?_
  focus
    refine xc_seq ?_
    refine xc_region ?_
    refine xo_rd (rd_assign rfl) rfl ?_
    refine xo_nil ?_
    refine xq_seq ?_
    refine xc_seq ?_
    refine xc_region ?_
    refine xo_rd (rd_move rfl) rfl ?_
    refine xo_rd (rd_move rfl) rfl ?_
    refine xo_rd (rd_move rfl) rfl ?_
    refine xo_rd (rd_move rfl) rfl ?_
    refine xo_rd (rd_len rfl) rfl ?_
    refine xo_rd (rd_slice3v rfl rfl rfl rfl (by omega) (by omega) (by omega) (by omega)) rfl ?_
    refine xo_nil ?_
    refine xq_seq ?_
    refine xc_seq ?_
    refine xc_seq ?_
    refine xc_region ?_
    refine xo_rd (rd_move rfl) rfl ?_
    refine xo_rd (rd_move rfl) rfl ?_
    refine xo_rd (rd_eql rfl rfl) rfl ?_
    refine xo_nil ?_
    refine xq_seq ?_
    refine xc_dec rfl (fun h1 => (by exfalso; omega)) (fun h1 => ?_)
    refine xc_skip ?_
    refine xq_seq ?_
    refine xc_seq ?_
    refine xc_region ?_
    refine xo_rd (rd_move rfl) rfl ?_
    refine xo_rd (rd_len rfl) rfl ?_
    refine xo_rd (rd_assign rfl) rfl ?_
    refine xo_nil ?_
    refine xq_seq ?_
    refine xc_seq ?_
    refine xc_drawM [0, 0, 3, 0, 0, 24, 36, 127] [0, 0, 3, 0, 0, 24, 36, 127] [] (by kernel_rfl) (by kernel_rfl) (by kernel_rfl) ?_
    refine xm_take 0 (m' := 1) rfl (by kernel_rfl) (by first | exact Sb.refl | exact Sb.nil | (repeat (first | exact Sb.nil | exact Sb.refl | exact Sb.app0 | apply Sb.keep | apply Sb.keepApp | apply Sb.cons | apply Sb.app))) (rd_move rfl) rfl (by kernel_rfl) ?_
    refine xm_take 1 (m' := 3) rfl (by kernel_rfl) (by first | exact Sb.refl | exact Sb.nil | (repeat (first | exact Sb.nil | exact Sb.refl | exact Sb.app0 | apply Sb.keep | apply Sb.keepApp | apply Sb.cons | apply Sb.app))) (rd_move rfl) rfl (by kernel_rfl) ?_
    refine xm_take 2 (m' := 7) rfl (by kernel_rfl) (by first | exact Sb.refl | exact Sb.nil | (repeat (first | exact Sb.nil | exact Sb.refl | exact Sb.app0 | apply Sb.keep | apply Sb.keepApp | apply Sb.cons | apply Sb.app))) (rd_cast (v' := .slice (some ⟨b, o, none⟩) i c) (rd_slHi rfl rfl (by omega) (by omega)) (by rw [e0])) rfl (by kernel_rfl) ?_
    refine xm_take 3 (m' := 15) rfl (by kernel_rfl) (by first | exact Sb.refl | exact Sb.nil | (repeat (first | exact Sb.nil | exact Sb.refl | exact Sb.app0 | apply Sb.keep | apply Sb.keepApp | apply Sb.cons | apply Sb.app))) (rd_move rfl) rfl (by kernel_rfl) ?_
    refine xm_take 4 (m' := 31) rfl (by kernel_rfl) (by first | exact Sb.refl | exact Sb.nil | (repeat (first | exact Sb.nil | exact Sb.refl | exact Sb.app0 | apply Sb.keep | apply Sb.keepApp | apply Sb.cons | apply Sb.app))) (rd_move rfl) rfl (by kernel_rfl) ?_
    refine xm_take 5 (m' := 63) rfl (by kernel_rfl) (by first | exact Sb.refl | exact Sb.nil | (repeat (first | exact Sb.nil | exact Sb.refl | exact Sb.app0 | apply Sb.keep | apply Sb.keepApp | apply Sb.cons | apply Sb.app))) (rd_cast (v' := .slice (slp (some ⟨b, o, none⟩) c (i + 1) 17) (m - (i + 1)) (c - (i + 1))) (rd_slLo rfl rfl (by omega) (by omega)) (by rw [e1])) rfl (by kernel_rfl) ?_
    refine xm_one 6 (m' := 127) rfl (by kernel_rfl) rfl (by kernel_rfl) (ef_appendRoomQ [] R l rfl rfl hpre rfl (hcut.rs (by intro z hz; simp [hz])) hdl hd1 (by decide) (by omega) fun l' hO' => ?_)
    refine ⟨(by first | exact Sb.refl | exact Sb.nil | (repeat (first | exact Sb.nil | exact Sb.refl | exact Sb.app0 | apply Sb.keep | apply Sb.keepApp | apply Sb.cons | apply Sb.app))), ?_⟩
    refine xm_take 7 (m' := 255) rfl (by kernel_rfl) (by first | exact Sb.refl | exact Sb.nil | (repeat (first | exact Sb.nil | exact Sb.refl | exact Sb.app0 | apply Sb.keep | apply Sb.keepApp | apply Sb.cons | apply Sb.app))) (rd_assign rfl) rfl (by kernel_rfl) ?_
    refine xm_done (by kernel_rfl) ?_
    refine xq_seq ?_
    refine xc_seq ?_
    refine xc_region ?_
    refine xo_rd (rd_move rfl) rfl ?_
    refine xo_rd (rd_move rfl) rfl ?_
    refine xo_rd (rd_len rfl) rfl ?_
    refine xo_rd (rd_move rfl) rfl ?_
    refine xo_rd (rd_cast (v' := .slice (slp (some ⟨b, o, none⟩) c (m - 1) 17) 1 (c - (m - 1))) (rd_slLH rfl rfl rfl (by omega) (by omega) (by omega)) (by rw [show (((i + (m - (i + 1)) : Nat)) : Int).toNat = m - 1 by omega, show (m : Int).toNat - (m - 1) = 1 by omega])) rfl ?_
  have hm1 : i + (m - (i + 1)) = m - 1 := by omega
  rw [hm1] at hO'
  refine xo_ef rfl (ef_clearQ [] R l' hO' rfl rfl (by decide) (by omega) (by simp [Value.cells, Value.oneCell']) fun l2 hO2 => ?_)
  focus
    refine xo_nil ?_
    refine xq_seq ?_
    refine xc_seq ?_
    refine xc_region ?_
    refine xo_rd (rd_move rfl) rfl ?_
    refine xo_rd (rd_assign rfl) rfl ?_
    refine xo_nil ?_
    refine xq_seq ?_
    refine xc_ret ?_
  exact xq_ret1 (.inl rfl) Try.results78 rfl ⟨l2, by rw [hm1], hO2, rfl⟩
/-- The state of settle. -/
structure SetS where
  i : Nat
  es : List En
  p : Option Addr
  c : Nat
  l : List Blk
theorem setl_stop {m i : Nat} {l : List Ea} (h : i < m) : setl m i l = l := by
  cases i with
  | zero => rfl
  | succ j => unfold setl; rw [if_neg (by omega)]
theorem setl_go {m i : Nat} {l : List Ea} (h : m ≤ i) (h0 : 0 < i) : setl m i l = setl m (i - 1) (stepS l i) := by
  cases i with
  | zero => omega
  | succ j => rw [setl, if_pos h]; rfl
theorem qblk_inj {r : Nat} {most : Int} {ca bg : Bool} {p : Option Addr} {n c : Nat} : (Qs.mk r most ca bg [] p c []).r = r := rfl
def qcl (most : Int) (ca bg : Bool) (p : Option Addr) (n c : Nat) : List Value := [.int .i64 most, .bool ca, .bool bg, .slice p n c]
theorem el_of {W : World} {L : List Blk} {p : Option Addr} {es : List En} (h : Rs W L p (es.flatMap En.enc)) {i : Nat} (hi : i < es.length) : ∃ b o, p = some ⟨b, o, none⟩ ∧ ∀ (k : Nat) (hk : k < es.length) (j : Nat) (u : Value), (es[k]).enc[j]? = some u → Cl W L b (o + k * 17 + j) u :=
  h.rows En.len (by decide) (by omega)
set_option maxHeartbeats 1600000 in
theorem xf_settle {W : World} {M M0 : List Blk} (r : Nat) (most : Int) (ca bg : Bool) (es : List En) (p : Option Addr) (c : Nat) (l : List Blk) (hx : (Qs.mk r most ca bg es p c l).Ok W M0) (k : Nat) (hk : k < es.length) :
    XF Try.prog W 68 #[.pointer (some ⟨r, 0, none⟩), .int .i64 k] ((r, .cells (qcl most ca bg p es.length c).toArray 108 (0, 0)) :: (l ++ M)) (fun v L' => v = .tuple #[] ∧ ∃ es' p c l, L' = (r, .cells (qcl most ca bg p es'.length c).toArray 108 (0, 0)) :: (l ++ M) ∧ (Qs.mk r most ca bg es' p c l).Ok W M0 ∧ es'.map En.a = settleA (es.map En.a) k) := by
  have hln := hx.len
  dsimp only at hln
  refine xf_enter (args := [_, _]) Try.func68 rfl Try.ntmps68 rfl ?_
  focus
    refine xc_seq ?_
    refine xc_region ?_
    refine xo_rd (rd_move rfl) rfl ?_
    refine xo_rd (rd_addn rfl rfl (by omega) (by omega)) rfl ?_
    refine xo_rd (rd_move rfl) rfl ?_
    refine xo_rd (rd_nilCheck rfl) rfl ?_
    refine xo_rd (rd_fieldAddr rfl) rfl ?_
    refine xo_rd (rd_load1 rfl (Cl.o0 rfl)) rfl ?_
    refine xo_rd (rd_len rfl) rfl ?_
    refine xo_rd (rd_cast (v' := .int .i64 ((es.length : Int) - 1)) (rd_subn rfl rfl (by show _ ≤ (es.length : Int) - 1; omega) (by show (es.length : Int) - 1 ≤ _; omega)) rfl) rfl ?_
    refine xo_rd (rd_cast (v' := .int .i64 ((min (k + 1) (es.length - 1) : Nat) : Int)) (rd_min rfl rfl) (congrArg (Value.int .i64) (by split <;> omega))) rfl ?_
    refine xo_rd (rd_assign rfl) rfl ?_
    refine xo_nil ?_
    refine xq_seq ?_
    refine xc_block ?_
  refine xc_loopI (ι := SetS) (fun s => (s.i < s.es.length) ∧ s.es.length ≤ es.length ∧ (Qs.mk r most ca bg s.es s.p s.c s.l).Ok W M0 ∧ setl (max k 1) s.i (s.es.map En.a) = settleA (es.map En.a) k) (fun s => s.i) (fun s => (r, .cells (qcl most ca bg s.p s.es.length s.c).toArray 108 (0, 0)) :: (s.l ++ M)) (fun s => [(0, .pointer (some ⟨r, 0, none⟩)), (1, .int .i64 k), (4, .int .i64 s.i)]) ⟨min (k + 1) (es.length - 1), es, p, c, l⟩ ⟨by dsimp only; omega, Nat.le_refl _, hx, by dsimp only; unfold settleA; rw [List.length_map]⟩ rfl (by repeat (first | exact keep_nil | refine keep_cons rfl ?_)) ?_
  rintro ⟨i, es1, p1, c1, l1⟩ ⟨hi, hle, hok, hse⟩
  dsimp only at hi hle hok hse ⊢
  have hok' := hok
  obtain ⟨hO, hat, hfw, _⟩ := hok'
  dsimp only at hO hat hfw
  by_cases him : max k 1 ≤ i
  · have hgo := setl_go (l := es1.map En.a) him (by omega)
    rw [hgo] at hse
    have hR : Rs W ((r, .cells (qcl most ca bg p1 es1.length c1).toArray 108 (0, 0)) :: (l1 ++ M)) p1 (es1.flatMap En.enc) := hO.rs (by intro z hz; simp [hz])
    obtain ⟨b, o, hp, hc⟩ := el_of hR hi
    have ei : es1[i]? = some es1[i] := List.getElem?_eq_getElem hi
    have ej : es1[i - 1]? = some es1[i - 1] := List.getElem?_eq_getElem (by omega)
    have hst : stepS (es1.map En.a) i = if (es1[i - 1]).a.joins (es1[i]).a = true then ((es1.map En.a).set (i - 1) ((es1[i - 1]).a.joined (es1[i]).a)).eraseIdx i else es1.map En.a := by
      unfold stepS; rw [List.getElem?_map, List.getElem?_map, ei, ej]; rfl
    have hc1 := hc i hi
    have hc0 := hc (i - 1) (by omega)
    have ha0 := hat es1[i - 1] (List.getElem_mem _)
    generalize hE1 : es1[i] = e1 at *
    generalize hE0 : es1[i - 1] = e0 at *
    subst hp
    obtain ⟨sj, hsj⟩ : ∃ r, e0.a.joins e1.a = r := ⟨_, rfl⟩
    have hc0' : ∀ (j : Nat) (u : Value), e0.enc[j]? = some u → Cl W ((r, .cells (qcl most ca bg (some ⟨b, o, none⟩) es1.length c1).toArray 108 (0, 0)) :: (l1 ++ M)) b (o + ((i : Int) - 1).toNat * 17 + j) u := fun j u hj => by
      rw [show ((i : Int) - 1).toNat = i - 1 by omega]; exact hc0 j u hj
    focus
      refine xc_seq ?_
      refine xc_seq ?_
      refine xc_region ?_
      refine xo_rd (rd_move rfl) rfl ?_
      refine xo_rd (rd_move rfl) rfl ?_
      refine xo_rd (rd_max rfl rfl) rfl ?_
      refine xo_rd (rd_geq rfl rfl) rfl ?_
      refine xo_nil ?_
      refine xq_seq ?_
      refine xc_dec rfl (fun hz1 => ?_) (fun hz1 => (by exfalso; omega))
      refine xc_skip ?_
      refine xq_seq ?_
      refine xc_seq ?_
      refine xc_block ?_
      refine xc_seq ?_
      refine xc_drawML [0, 1, 2, 4, 0, 16, 40, 64, 0, 256, 512, 1024, 0, 6144, 8192, 16512] [0, 1, 2, 4, 0, 16, 40, 64, 0, 256, 512, 1024, 0, 6144, 8192, 16512] (by kernel_rfl) (by kernel_rfl) (by kernel_rfl) ?_
      refine xm_take 0 (m' := 1) rfl (by kernel_rfl) (by first | exact Sb.refl | exact Sb.nil | (repeat (first | exact Sb.nil | exact Sb.refl | exact Sb.app0 | apply Sb.keep | apply Sb.keepApp | apply Sb.cons | apply Sb.app))) (rd_move rfl) rfl (by kernel_rfl) ?_
      refine xm_take 1 (m' := 3) rfl (by kernel_rfl) (by first | exact Sb.refl | exact Sb.nil | (repeat (first | exact Sb.nil | exact Sb.refl | exact Sb.app0 | apply Sb.keep | apply Sb.keepApp | apply Sb.cons | apply Sb.app))) (rd_nilCheck rfl) rfl (by kernel_rfl) ?_
      refine xm_take 2 (m' := 7) rfl (by kernel_rfl) (by first | exact Sb.refl | exact Sb.nil | (repeat (first | exact Sb.nil | exact Sb.refl | exact Sb.app0 | apply Sb.keep | apply Sb.keepApp | apply Sb.cons | apply Sb.app))) (rd_fieldAddr rfl) rfl (by kernel_rfl) ?_
      refine xm_take 3 (m' := 15) rfl (by kernel_rfl) (by first | exact Sb.refl | exact Sb.nil | (repeat (first | exact Sb.nil | exact Sb.refl | exact Sb.app0 | apply Sb.keep | apply Sb.keepApp | apply Sb.cons | apply Sb.app))) (rd_load1 rfl (Cl.o0 rfl)) rfl (by kernel_rfl) ?_
      refine xm_take 4 (m' := 31) rfl (by kernel_rfl) (by first | exact Sb.refl | exact Sb.nil | (repeat (first | exact Sb.nil | exact Sb.refl | exact Sb.app0 | apply Sb.keep | apply Sb.keepApp | apply Sb.cons | apply Sb.app))) (rd_move rfl) rfl (by kernel_rfl) ?_
      refine xm_take 5 (m' := 63) rfl (by kernel_rfl) (by first | exact Sb.refl | exact Sb.nil | (repeat (first | exact Sb.nil | exact Sb.refl | exact Sb.app0 | apply Sb.keep | apply Sb.keepApp | apply Sb.cons | apply Sb.app))) (rd_subn rfl rfl (by omega) (by omega)) rfl (by kernel_rfl) ?_
      refine xm_take 6 (m' := 127) rfl (by kernel_rfl) (by first | exact Sb.refl | exact Sb.nil | (repeat (first | exact Sb.nil | exact Sb.refl | exact Sb.app0 | apply Sb.keep | apply Sb.keepApp | apply Sb.cons | apply Sb.app))) (rd_indexAddr rfl rfl (by omega) (by omega)) rfl (by kernel_rfl) ?_
      refine xm_take 7 (m' := 255) rfl (by kernel_rfl) (by first | exact Sb.refl | exact Sb.nil | (repeat (first | exact Sb.nil | exact Sb.refl | exact Sb.app0 | apply Sb.keep | apply Sb.keepApp | apply Sb.cons | apply Sb.app))) (rd_loadA (vs := e0.enc) rfl rfl hc0') rfl (by kernel_rfl) ?_
      refine xm_take 8 (m' := 511) rfl (by kernel_rfl) (by first | exact Sb.refl | exact Sb.nil | (repeat (first | exact Sb.nil | exact Sb.refl | exact Sb.app0 | apply Sb.keep | apply Sb.keepApp | apply Sb.cons | apply Sb.app))) (rd_move rfl) rfl (by kernel_rfl) ?_
      refine xm_take 9 (m' := 1023) rfl (by kernel_rfl) (by first | exact Sb.refl | exact Sb.nil | (repeat (first | exact Sb.nil | exact Sb.refl | exact Sb.app0 | apply Sb.keep | apply Sb.keepApp | apply Sb.cons | apply Sb.app))) (rd_nilCheck rfl) rfl (by kernel_rfl) ?_
      refine xm_take 10 (m' := 2047) rfl (by kernel_rfl) (by first | exact Sb.refl | exact Sb.nil | (repeat (first | exact Sb.nil | exact Sb.refl | exact Sb.app0 | apply Sb.keep | apply Sb.keepApp | apply Sb.cons | apply Sb.app))) (rd_fieldAddr rfl) rfl (by kernel_rfl) ?_
      refine xm_take 11 (m' := 4095) rfl (by kernel_rfl) (by first | exact Sb.refl | exact Sb.nil | (repeat (first | exact Sb.nil | exact Sb.refl | exact Sb.app0 | apply Sb.keep | apply Sb.keepApp | apply Sb.cons | apply Sb.app))) (rd_load1 rfl (Cl.o0 rfl)) rfl (by kernel_rfl) ?_
      refine xm_take 12 (m' := 8191) rfl (by kernel_rfl) (by first | exact Sb.refl | exact Sb.nil | (repeat (first | exact Sb.nil | exact Sb.refl | exact Sb.app0 | apply Sb.keep | apply Sb.keepApp | apply Sb.cons | apply Sb.app))) (rd_move rfl) rfl (by kernel_rfl) ?_
      refine xm_take 13 (m' := 16383) rfl (by kernel_rfl) (by first | exact Sb.refl | exact Sb.nil | (repeat (first | exact Sb.nil | exact Sb.refl | exact Sb.app0 | apply Sb.keep | apply Sb.keepApp | apply Sb.cons | apply Sb.app))) (rd_indexAddr rfl rfl (by omega) (by omega)) rfl (by kernel_rfl) ?_
      refine xm_take 14 (m' := 32767) rfl (by kernel_rfl) (by first | exact Sb.refl | exact Sb.nil | (repeat (first | exact Sb.nil | exact Sb.refl | exact Sb.app0 | apply Sb.keep | apply Sb.keepApp | apply Sb.cons | apply Sb.app))) (rd_loadA (vs := e1.enc) rfl rfl hc1) rfl (by kernel_rfl) ?_
      refine xm_one 15 (m' := 65535) rfl (by kernel_rfl) rfl (by kernel_rfl) (ef_call rfl (XF.mono (xf_joins e0 e1 sj hsj) ?_))
      rintro v L' ⟨rfl, rfl⟩
      refine ⟨(by first | exact Sb.refl | exact Sb.nil | (repeat (first | exact Sb.nil | exact Sb.refl | exact Sb.app0 | apply Sb.keep | apply Sb.keepApp | apply Sb.cons | apply Sb.app))), ?_⟩
      refine xm_done (by kernel_rfl) ?_
      refine xq_seq ?_
      refine xc_cond rfl (fun hz2 => ?_) (fun hz2 => ?_)
      rotate_left
      refine xc_skip ?_
      refine xq_block ?_
      refine xq_seq ?_
      refine xc_region ?_
      refine xo_rd (rd_move rfl) rfl ?_
      refine xo_rd (rd_subn rfl rfl (by omega) (by omega)) rfl ?_
      refine xo_rd (rd_assign rfl) rfl ?_
      refine xo_nil ?_
      rotate_left
    · rw [← hsj] at hz2
      rw [hz2, if_pos rfl] at hst
      rw [hst] at hse
      have hset : (es1.flatMap En.enc).take ((i - 1) * 17) ++ (e0.joined e1).enc ++ (es1.flatMap En.enc).drop ((i - 1) * 17 + 17) = (es1.set (i - 1) (e0.joined e1)).flatMap En.enc := by
        rw [flat_setR En.len es1 (i - 1) _ (by omega), Nat.add_mul, Nat.one_mul]
      have hdel : ((es1.set (i - 1) (e0.joined e1)).flatMap En.enc).take (i * 17) ++ ((es1.set (i - 1) (e0.joined e1)).flatMap En.enc).drop ((i + 1) * 17) = ((es1.set (i - 1) (e0.joined e1)).eraseIdx i).flatMap En.enc := by
        rw [List.eraseIdx_eq_take_drop_succ, List.flatMap_append, flat_take En.len, flat_drop En.len]
      have hln2 : ((es1.set (i - 1) (e0.joined e1)).eraseIdx i).length = es1.length - 1 := by
        rw [List.length_eraseIdx, List.length_set, if_pos hi]
      focus
        refine xc_seq ?_
        refine xc_drawM [0, 1, 2, 4, 0, 16, 0, 64, 128, 256, 0, 1024, 2560, 4096, 0, 16384, 32768, 65536, 0, 393216, 524288, 1056768, 4194303, 8388607] [0, 1, 2, 4, 0, 16, 0, 64, 128, 256, 0, 1024, 2560, 4096, 0, 16384, 32768, 65536, 0, 393216, 524288, 1056768, 4194303, 8388607] ((r, .cells (qcl most ca bg (some ⟨b, o, none⟩) es1.length c1).toArray 108 (0, 0)) :: M) (by kernel_rfl) (by kernel_rfl) (by kernel_rfl) ?_
        refine xm_take 0 (m' := 1) rfl (by kernel_rfl) (by first | exact Sb.refl | exact Sb.nil | (repeat (first | exact Sb.nil | exact Sb.refl | exact Sb.app0 | apply Sb.keep | apply Sb.keepApp | apply Sb.cons | apply Sb.app))) (rd_move rfl) rfl (by kernel_rfl) ?_
        refine xm_take 1 (m' := 3) rfl (by kernel_rfl) (by first | exact Sb.refl | exact Sb.nil | (repeat (first | exact Sb.nil | exact Sb.refl | exact Sb.app0 | apply Sb.keep | apply Sb.keepApp | apply Sb.cons | apply Sb.app))) (rd_nilCheck rfl) rfl (by kernel_rfl) ?_
        refine xm_take 2 (m' := 7) rfl (by kernel_rfl) (by first | exact Sb.refl | exact Sb.nil | (repeat (first | exact Sb.nil | exact Sb.refl | exact Sb.app0 | apply Sb.keep | apply Sb.keepApp | apply Sb.cons | apply Sb.app))) (rd_fieldAddr rfl) rfl (by kernel_rfl) ?_
        refine xm_take 3 (m' := 15) rfl (by kernel_rfl) (by first | exact Sb.refl | exact Sb.nil | (repeat (first | exact Sb.nil | exact Sb.refl | exact Sb.app0 | apply Sb.keep | apply Sb.keepApp | apply Sb.cons | apply Sb.app))) (rd_load1 rfl (Cl.o0 rfl)) rfl (by kernel_rfl) ?_
        refine xm_take 4 (m' := 31) rfl (by kernel_rfl) (by first | exact Sb.refl | exact Sb.nil | (repeat (first | exact Sb.nil | exact Sb.refl | exact Sb.app0 | apply Sb.keep | apply Sb.keepApp | apply Sb.cons | apply Sb.app))) (rd_move rfl) rfl (by kernel_rfl) ?_
        refine xm_take 5 (m' := 63) rfl (by kernel_rfl) (by first | exact Sb.refl | exact Sb.nil | (repeat (first | exact Sb.nil | exact Sb.refl | exact Sb.app0 | apply Sb.keep | apply Sb.keepApp | apply Sb.cons | apply Sb.app))) (rd_subn rfl rfl (by omega) (by omega)) rfl (by kernel_rfl) ?_
        refine xm_take 6 (m' := 127) rfl (by kernel_rfl) (by first | exact Sb.refl | exact Sb.nil | (repeat (first | exact Sb.nil | exact Sb.refl | exact Sb.app0 | apply Sb.keep | apply Sb.keepApp | apply Sb.cons | apply Sb.app))) (rd_move rfl) rfl (by kernel_rfl) ?_
        refine xm_take 7 (m' := 255) rfl (by kernel_rfl) (by first | exact Sb.refl | exact Sb.nil | (repeat (first | exact Sb.nil | exact Sb.refl | exact Sb.app0 | apply Sb.keep | apply Sb.keepApp | apply Sb.cons | apply Sb.app))) (rd_nilCheck rfl) rfl (by kernel_rfl) ?_
        refine xm_take 8 (m' := 511) rfl (by kernel_rfl) (by first | exact Sb.refl | exact Sb.nil | (repeat (first | exact Sb.nil | exact Sb.refl | exact Sb.app0 | apply Sb.keep | apply Sb.keepApp | apply Sb.cons | apply Sb.app))) (rd_fieldAddr rfl) rfl (by kernel_rfl) ?_
        refine xm_take 9 (m' := 1023) rfl (by kernel_rfl) (by first | exact Sb.refl | exact Sb.nil | (repeat (first | exact Sb.nil | exact Sb.refl | exact Sb.app0 | apply Sb.keep | apply Sb.keepApp | apply Sb.cons | apply Sb.app))) (rd_load1 rfl (Cl.o0 rfl)) rfl (by kernel_rfl) ?_
        refine xm_take 10 (m' := 2047) rfl (by kernel_rfl) (by first | exact Sb.refl | exact Sb.nil | (repeat (first | exact Sb.nil | exact Sb.refl | exact Sb.app0 | apply Sb.keep | apply Sb.keepApp | apply Sb.cons | apply Sb.app))) (rd_move rfl) rfl (by kernel_rfl) ?_
        refine xm_take 11 (m' := 4095) rfl (by kernel_rfl) (by first | exact Sb.refl | exact Sb.nil | (repeat (first | exact Sb.nil | exact Sb.refl | exact Sb.app0 | apply Sb.keep | apply Sb.keepApp | apply Sb.cons | apply Sb.app))) (rd_subn rfl rfl (by omega) (by omega)) rfl (by kernel_rfl) ?_
        refine xm_take 12 (m' := 8191) rfl (by kernel_rfl) (by first | exact Sb.refl | exact Sb.nil | (repeat (first | exact Sb.nil | exact Sb.refl | exact Sb.app0 | apply Sb.keep | apply Sb.keepApp | apply Sb.cons | apply Sb.app))) (rd_indexAddr rfl rfl (by omega) (by omega)) rfl (by kernel_rfl) ?_
        refine xm_take 14 (m' := 24575) rfl (by kernel_rfl) (by first | exact Sb.refl | exact Sb.nil | (repeat (first | exact Sb.nil | exact Sb.refl | exact Sb.app0 | apply Sb.keep | apply Sb.keepApp | apply Sb.cons | apply Sb.app))) (rd_move rfl) rfl (by kernel_rfl) ?_
        refine xm_take 15 (m' := 57343) rfl (by kernel_rfl) (by first | exact Sb.refl | exact Sb.nil | (repeat (first | exact Sb.nil | exact Sb.refl | exact Sb.app0 | apply Sb.keep | apply Sb.keepApp | apply Sb.cons | apply Sb.app))) (rd_nilCheck rfl) rfl (by kernel_rfl) ?_
        refine xm_take 16 (m' := 122879) rfl (by kernel_rfl) (by first | exact Sb.refl | exact Sb.nil | (repeat (first | exact Sb.nil | exact Sb.refl | exact Sb.app0 | apply Sb.keep | apply Sb.keepApp | apply Sb.cons | apply Sb.app))) (rd_fieldAddr rfl) rfl (by kernel_rfl) ?_
        refine xm_take 17 (m' := 253951) rfl (by kernel_rfl) (by first | exact Sb.refl | exact Sb.nil | (repeat (first | exact Sb.nil | exact Sb.refl | exact Sb.app0 | apply Sb.keep | apply Sb.keepApp | apply Sb.cons | apply Sb.app))) (rd_load1 rfl (Cl.o0 rfl)) rfl (by kernel_rfl) ?_
        refine xm_take 18 (m' := 516095) rfl (by kernel_rfl) (by first | exact Sb.refl | exact Sb.nil | (repeat (first | exact Sb.nil | exact Sb.refl | exact Sb.app0 | apply Sb.keep | apply Sb.keepApp | apply Sb.cons | apply Sb.app))) (rd_move rfl) rfl (by kernel_rfl) ?_
        refine xm_take 19 (m' := 1040383) rfl (by kernel_rfl) (by first | exact Sb.refl | exact Sb.nil | (repeat (first | exact Sb.nil | exact Sb.refl | exact Sb.app0 | apply Sb.keep | apply Sb.keepApp | apply Sb.cons | apply Sb.app))) (rd_indexAddr rfl rfl (by omega) (by omega)) rfl (by kernel_rfl) ?_
        refine xm_two 13 20 (mi := 1048575) (mk := 2088959) rfl rfl (by kernel_rfl) rfl rfl (by kernel_rfl) (by kernel_rfl) (ef_rd (rd_loadA (vs := e0.enc) rfl rfl hc0') ⟨(by first | exact Sb.refl | exact Sb.nil | (repeat (first | exact Sb.nil | exact Sb.refl | exact Sb.app0 | apply Sb.keep | apply Sb.keepApp | apply Sb.cons | apply Sb.app))), ?_⟩) (ef_rd (rd_loadA (vs := e1.enc) rfl rfl hc1) ⟨(by first | exact Sb.refl | exact Sb.nil | (repeat (first | exact Sb.nil | exact Sb.refl | exact Sb.app0 | apply Sb.keep | apply Sb.keepApp | apply Sb.cons | apply Sb.app))), ?_⟩)
        refine xm_one 20 (m' := 2097151) rfl (by kernel_rfl) rfl (by kernel_rfl) (ef_rd (rd_loadA (vs := e1.enc) rfl rfl hc1) ?_)
        refine ⟨(by first | exact Sb.refl | exact Sb.nil | (repeat (first | exact Sb.nil | exact Sb.refl | exact Sb.app0 | apply Sb.keep | apply Sb.keepApp | apply Sb.cons | apply Sb.app))), ?_⟩
        refine xm_one 21 (m' := 4194303) rfl (by kernel_rfl) rfl (by kernel_rfl) (ef_call rfl (XF.mono (xf_joined e0 e1) ?_))
        rintro v L' ⟨rfl, rfl⟩
        refine ⟨(by first | exact Sb.refl | exact Sb.nil | (repeat (first | exact Sb.nil | exact Sb.refl | exact Sb.app0 | apply Sb.keep | apply Sb.keepApp | apply Sb.cons | apply Sb.app))), ?_⟩
        refine xm_take 22 (m' := 8388607) rfl (by kernel_rfl) (by first | exact Sb.refl | exact Sb.nil | (repeat (first | exact Sb.nil | exact Sb.refl | exact Sb.app0 | apply Sb.keep | apply Sb.keepApp | apply Sb.cons | apply Sb.app))) (rd_indexAddr rfl rfl (by omega) (by omega)) rfl (by kernel_rfl) ?_
        refine xm_one 23 (m' := 16777215) rfl (by kernel_rfl) rfl (by kernel_rfl) (ef_storeQs (s := 17) (vs := (e0.joined e1).enc) [_] M ((i - 1) * 17) hO rfl (by rw [show ((i : Int) - 1).toNat = i - 1 by omega]) rfl rfl rfl rfl (by omega) rfl fun l2 hO2 => ?_)
        refine ⟨(by first | exact Sb.refl | exact Sb.nil | (repeat (first | exact Sb.nil | exact Sb.refl | exact Sb.app0 | apply Sb.keep | apply Sb.keepApp | apply Sb.cons | apply Sb.app))), ?_⟩
        refine xm_done (by kernel_rfl) ?_
        refine xq_seq ?_
        refine xc_region ?_
        refine xo_rd (rd_move rfl) rfl ?_
        refine xo_rd (rd_move rfl) rfl ?_
        refine xo_rd (rd_nilCheck rfl) rfl ?_
        refine xo_rd (rd_fieldAddr rfl) rfl ?_
        refine xo_rd (rd_load1 rfl (Cl.o0 rfl)) rfl ?_
        refine xo_rd (rd_move rfl) rfl ?_
        refine xo_rd (rd_move rfl) rfl ?_
        refine xo_rd (rd_addn rfl rfl (by omega) (by omega)) rfl ?_
        refine xo_ef rfl (ef_call rfl (XF.mono (XF.seg [_] l2 M (xf_delete _ es1.length c1 i _ l2 hO2 (by rw [hset]; exact flat_one En.one _) hi (by omega))) ?_))
        rintro v L' ⟨l3, rfl, hO3, rfl⟩
        refine xo_seg [_] l3 M ?_
        refine xo_rd (rd_nilCheck rfl) rfl ?_
        refine xo_rd (rd_fieldAddr rfl) rfl ?_
        refine xo_ef rfl (ef_store1 [] _ rfl rfl (by first | rfl | assumption) rfl rfl rfl ?_)
        refine xo_nil ?_
        refine xq_block ?_
        refine xq_seq ?_
        refine xc_region ?_
        refine xo_rd (rd_move rfl) rfl ?_
        refine xo_rd (rd_subn rfl rfl (by omega) (by omega)) rfl ?_
        refine xo_rd (rd_assign rfl) rfl ?_
        refine xo_nil ?_
        rotate_left
        refine xm_one 13 (m' := 2097151) rfl (by kernel_rfl) rfl (by kernel_rfl) (ef_rd (rd_loadA (vs := e0.enc) rfl rfl hc0') ?_)
        refine ⟨(by first | exact Sb.refl | exact Sb.nil | (repeat (first | exact Sb.nil | exact Sb.refl | exact Sb.app0 | apply Sb.keep | apply Sb.keepApp | apply Sb.cons | apply Sb.app))), ?_⟩
        refine xm_one 21 (m' := 4194303) rfl (by kernel_rfl) rfl (by kernel_rfl) (ef_call rfl (XF.mono (xf_joined e0 e1) ?_))
        rintro v L' ⟨rfl, rfl⟩
        refine ⟨(by first | exact Sb.refl | exact Sb.nil | (repeat (first | exact Sb.nil | exact Sb.refl | exact Sb.app0 | apply Sb.keep | apply Sb.keepApp | apply Sb.cons | apply Sb.app))), ?_⟩
        refine xm_take 22 (m' := 8388607) rfl (by kernel_rfl) (by first | exact Sb.refl | exact Sb.nil | (repeat (first | exact Sb.nil | exact Sb.refl | exact Sb.app0 | apply Sb.keep | apply Sb.keepApp | apply Sb.cons | apply Sb.app))) (rd_indexAddr rfl rfl (by omega) (by omega)) rfl (by kernel_rfl) ?_
        refine xm_one 23 (m' := 16777215) rfl (by kernel_rfl) rfl (by kernel_rfl) (ef_storeQs (s := 17) (vs := (e0.joined e1).enc) [_] M ((i - 1) * 17) hO rfl (by rw [show ((i : Int) - 1).toNat = i - 1 by omega]) rfl rfl rfl rfl (by omega) rfl fun l2 hO2 => ?_)
        refine ⟨(by first | exact Sb.refl | exact Sb.nil | (repeat (first | exact Sb.nil | exact Sb.refl | exact Sb.app0 | apply Sb.keep | apply Sb.keepApp | apply Sb.cons | apply Sb.app))), ?_⟩
        refine xm_done (by kernel_rfl) ?_
        refine xq_seq ?_
        refine xc_region ?_
        refine xo_rd (rd_move rfl) rfl ?_
        refine xo_rd (rd_move rfl) rfl ?_
        refine xo_rd (rd_nilCheck rfl) rfl ?_
        refine xo_rd (rd_fieldAddr rfl) rfl ?_
        refine xo_rd (rd_load1 rfl (Cl.o0 rfl)) rfl ?_
        refine xo_rd (rd_move rfl) rfl ?_
        refine xo_rd (rd_move rfl) rfl ?_
        refine xo_rd (rd_addn rfl rfl (by omega) (by omega)) rfl ?_
        refine xo_ef rfl (ef_call rfl (XF.mono (XF.seg [_] l2 M (xf_delete _ es1.length c1 i _ l2 hO2 (by rw [hset]; exact flat_one En.one _) hi (by omega))) ?_))
        rintro v L' ⟨l3, rfl, hO3, rfl⟩
        refine xo_seg [_] l3 M ?_
        refine xo_rd (rd_nilCheck rfl) rfl ?_
        refine xo_rd (rd_fieldAddr rfl) rfl ?_
        refine xo_ef rfl (ef_store1 [] _ rfl rfl (by first | rfl | assumption) rfl rfl rfl ?_)
        refine xo_nil ?_
        refine xq_block ?_
        refine xq_seq ?_
        refine xc_region ?_
        refine xo_rd (rd_move rfl) rfl ?_
        refine xo_rd (rd_subn rfl rfl (by omega) (by omega)) rfl ?_
        refine xo_rd (rd_assign rfl) rfl ?_
        refine xo_nil ?_
        rotate_left
      all_goals
        rw [hset, hdel] at hO3
        refine xq_roundI (⟨i - 1, (es1.set (i - 1) (e0.joined e1)).eraseIdx i, some ⟨b, o, none⟩, c1, l3⟩ : SetS) ⟨by dsimp only; omega, by dsimp only; omega, ⟨?_, ?_, ?_, ?_⟩, ?_⟩ (by dsimp only; omega) (by dsimp only; rw [hln2]; rfl) (by
          rw [show ((i - 1 : Nat) : Int) = (i : Int) - 1 by omega]
          exact (by repeat (first | exact keep_nil | refine keep_cons rfl ?_)))
        · dsimp only; rw [hln2]; exact hO3
        · dsimp only
          intro e he
          rcases List.mem_or_eq_of_mem_set (List.mem_of_mem_eraseIdx he) with h | h
          · exact hat e h
          · rw [h, En.joined_f]; exact zFr_at
        · dsimp only
          intro e he
          rcases List.mem_or_eq_of_mem_set (List.mem_of_mem_eraseIdx he) with h | h
          · exact hfw e h
          · rw [h, En.joined_f]; exact zFr_few
        · dsimp only; omega
        · dsimp only
          rw [← hse, ← En.joined_a, List.eraseIdx_eq_take_drop_succ, List.eraseIdx_eq_take_drop_succ, List.map_append, List.map_take, List.map_drop, List.map_set]
    · rw [← hsj] at hz2
      rw [hz2, if_neg (by simp)] at hst
      rw [hst] at hse
      exact xq_roundI (⟨i - 1, es1, some ⟨b, o, none⟩, c1, l1⟩ : SetS) ⟨by dsimp only; omega, hle, hok, hse⟩ (by dsimp only; omega) rfl (by
        rw [show ((i - 1 : Nat) : Int) = (i : Int) - 1 by omega]
        exact (by repeat (first | exact keep_nil | refine keep_cons rfl ?_)))
  · skip
    focus
      refine xc_seq ?_
      refine xc_seq ?_
      refine xc_region ?_
      refine xo_rd (rd_move rfl) rfl ?_
      refine xo_rd (rd_move rfl) rfl ?_
      refine xo_rd (rd_max rfl rfl) rfl ?_
      refine xo_rd (rd_geq rfl rfl) rfl ?_
      refine xo_nil ?_
      refine xq_seq ?_
      refine xc_dec rfl (fun hz1 => (by exfalso; omega)) (fun hz1 => ?_)
      refine xc_exit ?_
      refine xq_then_exit ?_
      refine xq_then_exit ?_
      refine xq_block_hit ?_
    have hgo := setl_stop (l := es1.map En.a) (Nat.lt_of_not_le him)
    rw [hgo] at hse
    exact xq_ret0 (.inr rfl) Try.results68 ⟨rfl, es1, p1, c1, l1, rfl, hok, hse⟩
end Go.Proofs.Ytpheiklhjelkcaa.X
/-
  Chapter 19: an entry is put: a walk of my own.
-/
namespace Go.Proofs.Ytpheiklhjelkcaa.X
open Go Go.RowKit
set_option linter.unusedVariables false
set_option linter.unusedSimpArgs false
theorem perm_pt (p q : Blk) (a b R : List Blk) : (a ++ (p :: q :: (b ++ R))).Perm (p :: q :: (b ++ (a ++ R))) := (by classical exact List.perm_iff_count.2 fun a => by simp only [List.append_eq, List.count_append, List.count_cons, List.count_nil, List.cons_append, List.nil_append, List.flatMap_append, List.flatMap_cons, List.flatMap_nil, List.append_nil]; omega)
theorem Fr.few_a {x y : Fr} (h : x.a = y.a) (hf : y.Few) : x.Few := Fr.few_of h hf
theorem En.a_f {x y : En} (h : x.a = y.a) : x.i.f.a = y.i.f.a := congrArg Ea.f h
theorem vic_lt (ca bg : Bool) (l : List Ea) : victimA ca bg l < l.length := by
  unfold victimA vicA
  dsimp only
  split
  · omega
  · exact (lastI_lt _ _).2
/-- The state of put, behind the entry that came. -/
structure PtS where
  y : En
  p : Option Addr
  c : Nat
  l : List Blk
set_option maxHeartbeats 1600000 in
theorem xf_put {W : World} {M M0 : List Blk} (r : Nat) (most : Int) (ca bg : Bool) (es : List En) (p : Option Addr) (c : Nat) (l : List Blk) (hx : (Qs.mk r most ca bg es p c l).Ok W M0) (hlen : es.length + 1 ≤ 1000000) (e : En) (hat : e.i.f.At W M) (hf : e.i.f.Few) :
    XF Try.prog W 57 #[.pointer (some ⟨r, 0, none⟩), .agg e.enc.toArray] ((r, .cells (qcl most ca bg p es.length c).toArray 108 (0, 0)) :: (l ++ M)) (fun v L' => ∃ es' p c l N, v = .int .i64 (putA most ca bg (es.map En.a) e.a).2 ∧ L' = (r, .cells (qcl most ca bg p es'.length c).toArray 108 (0, 0)) :: (l ++ (N ++ M)) ∧ (Qs.mk r most ca bg es' p c l).Ok W (N ++ M0) ∧ es'.map En.a = (putA most ca bg (es.map En.a) e.a).1) := by
  have hok := hx
  obtain ⟨hO, hatq, hfw, hln⟩ := hx
  dsimp only at hO hatq hfw hln
  refine xf_enter (args := [_, _]) Try.func57 rfl Try.ntmps57 rfl ?_
  focus
    refine xc_seq ?_
    refine xc_region ?_
    refine xo_ef rfl (ef_box rfl fun r3 => ?_)
    refine xo_rd (rd_assign rfl) rfl ?_
    refine xo_nil ?_
    refine xq_seq ?_
  refine xc_join (ι := PtS) (fun s => s.y.a = e.a ∧ s.y.i.f.Ok 116 ∧ SlQ 17 45 (.slice s.p (es.length + 1) s.c) (es.length + 1) (es.flatMap En.enc ++ s.y.enc) s.l) (fun s => (r, .cells (qcl most ca bg s.p (es.length + 1) s.c).toArray 108 (0, 0)) :: (s.l ++ (s.y.i.f.bl ++ M))) (fun _ => [(0, .pointer (some ⟨r, 0, none⟩))]) ?_ ?_
  · focus
      refine xc_drawM [0, 0, 2, 4, 8, 0, 32, 64, 208, 511, 1023, 1535] [0, 0, 2, 4, 8, 0, 32, 64, 208, 511, 1023, 1535] ((r3, .cells e.enc.toArray 45 (0, 0)) :: M) (by kernel_rfl) (by kernel_rfl) (by kernel_rfl) ?_
      refine xm_take 0 (m' := 1) rfl (by kernel_rfl) (by first | exact Sb.refl | exact Sb.nil | (repeat (first | exact Sb.nil | exact Sb.refl | exact Sb.app0 | apply Sb.keep | apply Sb.keepApp | apply Sb.cons | apply Sb.app))) (rd_move rfl) rfl (by kernel_rfl) ?_
      refine xm_take 1 (m' := 3) rfl (by kernel_rfl) (by first | exact Sb.refl | exact Sb.nil | (repeat (first | exact Sb.nil | exact Sb.refl | exact Sb.app0 | apply Sb.keep | apply Sb.keepApp | apply Sb.cons | apply Sb.app))) (rd_move rfl) rfl (by kernel_rfl) ?_
      refine xm_take 2 (m' := 7) rfl (by kernel_rfl) (by first | exact Sb.refl | exact Sb.nil | (repeat (first | exact Sb.nil | exact Sb.refl | exact Sb.app0 | apply Sb.keep | apply Sb.keepApp | apply Sb.cons | apply Sb.app))) (rd_nilCheck rfl) rfl (by kernel_rfl) ?_
      refine xm_take 3 (m' := 15) rfl (by kernel_rfl) (by first | exact Sb.refl | exact Sb.nil | (repeat (first | exact Sb.nil | exact Sb.refl | exact Sb.app0 | apply Sb.keep | apply Sb.keepApp | apply Sb.cons | apply Sb.app))) (rd_fieldAddr rfl) rfl (by kernel_rfl) ?_
      refine xm_take 5 (m' := 47) rfl (by kernel_rfl) (by first | exact Sb.refl | exact Sb.nil | (repeat (first | exact Sb.nil | exact Sb.refl | exact Sb.app0 | apply Sb.keep | apply Sb.keepApp | apply Sb.cons | apply Sb.app))) (rd_loadB rfl Kn.o0 (by rfl)) rfl (by kernel_rfl) ?_
      refine xm_two 4 6 (mi := 63) (mk := 111) rfl rfl (by kernel_rfl) rfl rfl (by kernel_rfl) (by kernel_rfl) (ef_rd (rd_load1 rfl (Cl.o1 rfl)) ⟨(by first | exact Sb.refl | exact Sb.nil | (repeat (first | exact Sb.nil | exact Sb.refl | exact Sb.app0 | apply Sb.keep | apply Sb.keepApp | apply Sb.cons | apply Sb.app))), ?_⟩) (ef_call rfl (XF.mono (xf_copied e (hat.mono (by intro z hz; simp [hz])) hf) ?_))
      rotate_left
      rintro v L' ⟨y, rfl, hya, hyo, rfl⟩
      refine xmx_perm (perm_pt _ _ y.i.f.bl l M) ?_
      refine ⟨(by first | exact Sb.refl | exact Sb.nil | (repeat (first | exact Sb.nil | exact Sb.refl | exact Sb.app0 | apply Sb.keep | apply Sb.keepApp | apply Sb.cons | apply Sb.app))), ?_⟩
      rotate_right
      refine xm_one 6 (m' := 127) rfl (by kernel_rfl) rfl (by kernel_rfl) (ef_call rfl (XF.mono (xf_copied e (hat.mono (by intro z hz; simp [hz])) hf) ?_))
      rintro v L' ⟨y, rfl, hya, hyo, rfl⟩
      refine xmx_perm (perm_pt _ _ y.i.f.bl l M) ?_
      refine ⟨(by first | exact Sb.refl | exact Sb.nil | (repeat (first | exact Sb.nil | exact Sb.refl | exact Sb.app0 | apply Sb.keep | apply Sb.keepApp | apply Sb.cons | apply Sb.app))), ?_⟩
      refine xm_one 7 (m' := 255) rfl (by kernel_rfl) rfl (by kernel_rfl) (ef_sliceA (vs := y.enc) rfl rfl (by rw [En.len]; decide) (by rw [En.len]; decide) fun r13 => ?_)
      refine ⟨(by first | exact Sb.refl | exact Sb.nil | (repeat (first | exact Sb.nil | exact Sb.refl | exact Sb.app0 | apply Sb.keep | apply Sb.keepApp | apply Sb.cons | apply Sb.app))), ?_⟩
      refine xm_one 8 (m' := 511) rfl (by kernel_rfl) rfl (by kernel_rfl) (ef_appendQS [_, _, _] (y.i.f.bl ++ M) l (news := y.enc) rfl rfl hO rfl (Rs.fresh (List.Mem.head _)) rfl rfl (by decide) (by omega) (by omega) fun p2 c2 l2 hO2 hc2 => ?_)
      refine ⟨(by first | exact Sb.refl | exact Sb.nil | (repeat (first | exact Sb.nil | exact Sb.refl | exact Sb.app0 | apply Sb.keep | apply Sb.keepApp | apply Sb.cons | apply Sb.app))), ?_⟩
      refine xm_take 9 (m' := 1023) rfl (by kernel_rfl) (by first | exact Sb.refl | exact Sb.nil | (repeat (first | exact Sb.nil | exact Sb.refl | exact Sb.app0 | apply Sb.keep | apply Sb.keepApp | apply Sb.cons | apply Sb.app))) (rd_nilCheck rfl) rfl (by kernel_rfl) ?_
      refine xm_take 10 (m' := 2047) rfl (by kernel_rfl) (by first | exact Sb.refl | exact Sb.nil | (repeat (first | exact Sb.nil | exact Sb.refl | exact Sb.app0 | apply Sb.keep | apply Sb.keepApp | apply Sb.cons | apply Sb.app))) (rd_fieldAddr rfl) rfl (by kernel_rfl) ?_
      refine xm_one 11 (m' := 4095) rfl (by kernel_rfl) rfl (by kernel_rfl) (ef_store1 [_, _] _ rfl rfl (by first | rfl | assumption) rfl rfl rfl ?_)
      refine ⟨(by first | exact Sb.refl | exact Sb.nil | (repeat (first | exact Sb.nil | exact Sb.refl | exact Sb.app0 | apply Sb.keep | apply Sb.keepApp | apply Sb.cons | apply Sb.app))), ?_⟩
      refine xm_done (by kernel_rfl) ?_
      rotate_left
      refine xm_two 4 7 (mi := 127) (mk := 239) rfl rfl (by kernel_rfl) rfl rfl (by kernel_rfl) (by kernel_rfl) (ef_rd (rd_load1 rfl (Cl.o1 rfl)) ⟨(by first | exact Sb.refl | exact Sb.nil | (repeat (first | exact Sb.nil | exact Sb.refl | exact Sb.app0 | apply Sb.keep | apply Sb.keepApp | apply Sb.cons | apply Sb.app))), ?_⟩) (ef_sliceA (vs := y.enc) rfl rfl (by rw [En.len]; decide) (by rw [En.len]; decide) fun r13 => ⟨(by first | exact Sb.refl | exact Sb.nil | (repeat (first | exact Sb.nil | exact Sb.refl | exact Sb.app0 | apply Sb.keep | apply Sb.keepApp | apply Sb.cons | apply Sb.app))), ?_⟩)
      refine xm_one 7 (m' := 255) rfl (by kernel_rfl) rfl (by kernel_rfl) (ef_sliceA (vs := y.enc) rfl rfl (by rw [En.len]; decide) (by rw [En.len]; decide) fun r13 => ?_)
      refine ⟨(by first | exact Sb.refl | exact Sb.nil | (repeat (first | exact Sb.nil | exact Sb.refl | exact Sb.app0 | apply Sb.keep | apply Sb.keepApp | apply Sb.cons | apply Sb.app))), ?_⟩
      refine xm_one 8 (m' := 511) rfl (by kernel_rfl) rfl (by kernel_rfl) (ef_appendQS [_, _, _] (y.i.f.bl ++ M) l (news := y.enc) rfl rfl hO rfl (Rs.fresh (List.Mem.head _)) rfl rfl (by decide) (by omega) (by omega) fun p2 c2 l2 hO2 hc2 => ?_)
      refine ⟨(by first | exact Sb.refl | exact Sb.nil | (repeat (first | exact Sb.nil | exact Sb.refl | exact Sb.app0 | apply Sb.keep | apply Sb.keepApp | apply Sb.cons | apply Sb.app))), ?_⟩
      refine xm_take 9 (m' := 1023) rfl (by kernel_rfl) (by first | exact Sb.refl | exact Sb.nil | (repeat (first | exact Sb.nil | exact Sb.refl | exact Sb.app0 | apply Sb.keep | apply Sb.keepApp | apply Sb.cons | apply Sb.app))) (rd_nilCheck rfl) rfl (by kernel_rfl) ?_
      refine xm_take 10 (m' := 2047) rfl (by kernel_rfl) (by first | exact Sb.refl | exact Sb.nil | (repeat (first | exact Sb.nil | exact Sb.refl | exact Sb.app0 | apply Sb.keep | apply Sb.keepApp | apply Sb.cons | apply Sb.app))) (rd_fieldAddr rfl) rfl (by kernel_rfl) ?_
      refine xm_one 11 (m' := 4095) rfl (by kernel_rfl) rfl (by kernel_rfl) (ef_store1 [_, _] _ rfl rfl (by first | rfl | assumption) rfl rfl rfl ?_)
      refine ⟨(by first | exact Sb.refl | exact Sb.nil | (repeat (first | exact Sb.nil | exact Sb.refl | exact Sb.app0 | apply Sb.keep | apply Sb.keepApp | apply Sb.cons | apply Sb.app))), ?_⟩
      refine xm_done (by kernel_rfl) ?_
      rotate_left
      refine xm_one 4 (m' := 255) rfl (by kernel_rfl) rfl (by kernel_rfl) (ef_rd (rd_load1 rfl (Cl.o2 rfl)) ?_)
      refine ⟨(by first | exact Sb.refl | exact Sb.nil | (repeat (first | exact Sb.nil | exact Sb.refl | exact Sb.app0 | apply Sb.keep | apply Sb.keepApp | apply Sb.cons | apply Sb.app))), ?_⟩
      refine xm_one 8 (m' := 511) rfl (by kernel_rfl) rfl (by kernel_rfl) (ef_appendQS [_, _, _] (y.i.f.bl ++ M) l (news := y.enc) rfl rfl hO rfl (Rs.fresh (List.Mem.head _)) rfl rfl (by decide) (by omega) (by omega) fun p2 c2 l2 hO2 hc2 => ?_)
      refine ⟨(by first | exact Sb.refl | exact Sb.nil | (repeat (first | exact Sb.nil | exact Sb.refl | exact Sb.app0 | apply Sb.keep | apply Sb.keepApp | apply Sb.cons | apply Sb.app))), ?_⟩
      refine xm_take 9 (m' := 1023) rfl (by kernel_rfl) (by first | exact Sb.refl | exact Sb.nil | (repeat (first | exact Sb.nil | exact Sb.refl | exact Sb.app0 | apply Sb.keep | apply Sb.keepApp | apply Sb.cons | apply Sb.app))) (rd_nilCheck rfl) rfl (by kernel_rfl) ?_
      refine xm_take 10 (m' := 2047) rfl (by kernel_rfl) (by first | exact Sb.refl | exact Sb.nil | (repeat (first | exact Sb.nil | exact Sb.refl | exact Sb.app0 | apply Sb.keep | apply Sb.keepApp | apply Sb.cons | apply Sb.app))) (rd_fieldAddr rfl) rfl (by kernel_rfl) ?_
      refine xm_one 11 (m' := 4095) rfl (by kernel_rfl) rfl (by kernel_rfl) (ef_store1 [_, _] _ rfl rfl (by first | rfl | assumption) rfl rfl rfl ?_)
      refine ⟨(by first | exact Sb.refl | exact Sb.nil | (repeat (first | exact Sb.nil | exact Sb.refl | exact Sb.app0 | apply Sb.keep | apply Sb.keepApp | apply Sb.cons | apply Sb.app))), ?_⟩
      refine xm_done (by kernel_rfl) ?_
      rotate_left
    all_goals exact xq_sub (List.sublist_append_right [_, _] _) (xq_joined (⟨y, p2, c2, l2⟩ : PtS) ⟨hya, hyo, hO2⟩ rfl (by repeat (first | exact keep_nil | refine keep_cons rfl ?_)))
  rintro ⟨y, p2, c2, l2⟩ ⟨hya, hyo, hO2⟩
  dsimp only at hya hyo hO2 ⊢
  obtain ⟨es1, hes1⟩ : ∃ es1, es1 = es ++ [y] := ⟨_, rfl⟩
  have hl1 : es1.length = es.length + 1 := by rw [hes1]; simp
  have hof : es1.flatMap En.enc = es.flatMap En.enc ++ y.enc := by rw [hes1, List.flatMap_append, List.flatMap_singleton]
  have hma : es1.map En.a = es.map En.a ++ [e.a] := by rw [hes1, List.map_append, List.map_singleton, hya]
  have hml : (es.map En.a).length = es.length := List.length_map _
  rw [← hof, ← hl1] at hO2
  rw [← hl1]
  have hyf := Fr.few_of (En.a_f hya) hf
  have hok1 : (Qs.mk r most ca bg es1 p2 c2 l2).Ok W (y.i.f.bl ++ M0) := ⟨hO2, fun z hz => by
    rw [hes1] at hz
    rcases List.mem_append.1 hz with h | h
    · exact (hatq z h).app
    · rw [List.mem_singleton.1 h]; exact hyo.at, fun z hz => by
    rw [hes1] at hz
    rcases List.mem_append.1 hz with h | h
    · exact hfw z h
    · rw [List.mem_singleton.1 h]; exact hyf, by dsimp only; omega⟩
  unfold putA
  rw [← hma, hml]
  focus
    refine xc_seq ?_
    refine xc_region ?_
    refine xo_rd (rd_move rfl) rfl ?_
    refine xo_rd (rd_move rfl) rfl ?_
    refine xo_rd (rd_nilCheck rfl) rfl ?_
    refine xo_rd (rd_fieldAddr rfl) rfl ?_
    refine xo_rd (rd_load1 rfl (Cl.o0 rfl)) rfl ?_
    refine xo_rd (rd_len rfl) rfl ?_
    refine xo_rd (rd_cast (v' := .int .i64 es.length) (rd_subn rfl rfl (by show _ ≤ (es1.length : Int) - 1; omega) (by show (es1.length : Int) - 1 ≤ _; omega)) (congrArg (Value.int .i64) (by show (es1.length : Int) - 1 = es.length; omega))) rfl ?_
    refine xo_ef rfl (ef_call rfl (XF.mono (xf_settle r most ca bg es1 p2 c2 l2 hok1 es.length (by omega)) ?_))
    rintro v L' ⟨rfl, es2, p3, c3, l3, rfl, hok2, hm2⟩
    refine xo_nil ?_
    refine xq_seq ?_
  rw [← hm2]
  obtain ⟨xq, hxq⟩ : ∃ x, x = Qs.mk r most ca bg es2 p3 c3 l3 := ⟨_, rfl⟩
  rw [← hxq] at hok2
  have hxa : xq.a = es2.map En.a := by rw [hxq]; rfl
  have hxl : xq.es.length = es2.length := by rw [hxq]
  have hxr : xq.r = r := by rw [hxq]
  have hx2 : xq.es.length ≤ 1000000 := hok2.len
  have hqr : ∀ L', (∀ z, z ∈ ((r, Obj.cells (qcl most ca bg p3 es2.length c3).toArray 108 (0, 0)) :: (l3 ++ (y.i.f.bl ++ M)) : List Blk) → z ∈ L') → QR W L' xq := fun L' h => hok2.qr fun z hz => h z (by rw [hxq] at hz; exact List.mem_append_left _ hz)
  have hfr : ∀ L', (∀ z, z ∈ ((r, Obj.cells (qcl most ca bg p3 es2.length c3).toArray 108 (0, 0)) :: (l3 ++ (y.i.f.bl ++ M)) : List Blk) → z ∈ L') → XF Try.prog W 25 #[.pointer (some ⟨r, 0, none⟩)] L' (fun v L'' => v = .int .i64 (framesA (es2.map En.a)) ∧ L'' = L') := fun L' h => by
    have := xf_Frames xq (hqr L' h) hx2; rw [hxa, hxr] at this; exact this
  have hvc : ∀ L', (∀ z, z ∈ ((r, Obj.cells (qcl most ca bg p3 es2.length c3).toArray 108 (0, 0)) :: (l3 ++ (y.i.f.bl ++ M)) : List Blk) → z ∈ L') → XF Try.prog W 69 #[.pointer (some ⟨r, 0, none⟩)] L' (fun v L'' => v = .int .i64 (victimA ca bg (es2.map En.a)) ∧ L'' = L') := fun L' h => by
    have := xf_victim xq (hqr L' h) hx2; rw [hxa, hxr] at this; rw [hxq] at this; exact this
  have hvl := vic_lt ca bg (es2.map En.a)
  rw [List.length_map] at hvl
  have hok3 : (Qs.mk r most ca bg es2 p3 c3 l3).Ok W (y.i.f.bl ++ M0) := by rw [← hxq]; exact hok2
  focus
    refine xc_seq ?_
    refine xc_seq ?_
    refine xc_drawML [0, 1, 2, 4, 0, 16, 40, 64] [0, 1, 2, 4, 0, 16, 40, 64] (by kernel_rfl) (by kernel_rfl) (by kernel_rfl) ?_
    refine xm_take 0 (m' := 1) rfl (by kernel_rfl) (by first | exact Sb.refl | exact Sb.nil | (repeat (first | exact Sb.nil | exact Sb.refl | exact Sb.app0 | apply Sb.keep | apply Sb.keepApp | apply Sb.cons | apply Sb.app))) (rd_move rfl) rfl (by kernel_rfl) ?_
    refine xm_take 1 (m' := 3) rfl (by kernel_rfl) (by first | exact Sb.refl | exact Sb.nil | (repeat (first | exact Sb.nil | exact Sb.refl | exact Sb.app0 | apply Sb.keep | apply Sb.keepApp | apply Sb.cons | apply Sb.app))) (rd_nilCheck rfl) rfl (by kernel_rfl) ?_
    refine xm_take 2 (m' := 7) rfl (by kernel_rfl) (by first | exact Sb.refl | exact Sb.nil | (repeat (first | exact Sb.nil | exact Sb.refl | exact Sb.app0 | apply Sb.keep | apply Sb.keepApp | apply Sb.cons | apply Sb.app))) (rd_fieldAddr rfl) rfl (by kernel_rfl) ?_
    refine xm_take 3 (m' := 15) rfl (by kernel_rfl) (by first | exact Sb.refl | exact Sb.nil | (repeat (first | exact Sb.nil | exact Sb.refl | exact Sb.app0 | apply Sb.keep | apply Sb.keepApp | apply Sb.cons | apply Sb.app))) (rd_loadA (vs := [.int .i64 most]) rfl rfl (cl_sub (b := r) (vs := qcl most ca bg p3 es2.length c3) (T := 108) (fr := (0, 0)) _ (by first | exact List.Mem.head _ | exact List.Mem.tail _ (List.Mem.head _) | exact List.Mem.tail _ (List.Mem.tail _ (List.Mem.head _)) | exact List.Mem.tail _ (List.Mem.tail _ (List.Mem.tail _ (List.Mem.head _))) | exact List.Mem.tail _ (List.Mem.tail _ (List.Mem.tail _ (List.Mem.tail _ (List.Mem.head _)))) | exact List.Mem.tail _ (List.Mem.tail _ (List.Mem.tail _ (List.Mem.tail _ (List.Mem.tail _ (List.Mem.head _))))) | exact List.Mem.tail _ (List.Mem.tail _ (List.Mem.tail _ (List.Mem.tail _ (List.Mem.tail _ (List.Mem.tail _ (List.Mem.head _)))))) | exact List.Mem.tail _ (List.Mem.tail _ (List.Mem.tail _ (List.Mem.tail _ (List.Mem.tail _ (List.Mem.tail _ (List.Mem.tail _ (List.Mem.head _)))))))) rfl)) rfl (by kernel_rfl) ?_
    refine xm_take 4 (m' := 31) rfl (by kernel_rfl) (by first | exact Sb.refl | exact Sb.nil | (repeat (first | exact Sb.nil | exact Sb.refl | exact Sb.app0 | apply Sb.keep | apply Sb.keepApp | apply Sb.cons | apply Sb.app))) (rd_move rfl) rfl (by kernel_rfl) ?_
    refine xm_one 5 (m' := 63) rfl (by kernel_rfl) rfl (by kernel_rfl) (ef_call rfl (XF.mono (hfr _ (by intro z hz; simp [hz])) ?_))
    rintro v L' ⟨rfl, rfl⟩
    refine ⟨(by first | exact Sb.refl | exact Sb.nil | (repeat (first | exact Sb.nil | exact Sb.refl | exact Sb.app0 | apply Sb.keep | apply Sb.keepApp | apply Sb.cons | apply Sb.app))), ?_⟩
    refine xm_one 6 (m' := 127) rfl (by kernel_rfl) rfl (by kernel_rfl) (ef_call rfl (XF.mono (xf_over' most _) ?_))
    rintro v L' ⟨rfl, rfl⟩
    refine ⟨(by first | exact Sb.refl | exact Sb.nil | (repeat (first | exact Sb.nil | exact Sb.refl | exact Sb.app0 | apply Sb.keep | apply Sb.keepApp | apply Sb.cons | apply Sb.app))), ?_⟩
    refine xm_take 7 (m' := 255) rfl (by kernel_rfl) (by first | exact Sb.refl | exact Sb.nil | (repeat (first | exact Sb.nil | exact Sb.refl | exact Sb.app0 | apply Sb.keep | apply Sb.keepApp | apply Sb.cons | apply Sb.app))) (rd_not rfl) rfl (by kernel_rfl) ?_
    refine xm_done (by kernel_rfl) ?_
    refine xq_seq ?_
    refine xc_ndec rfl (fun hz1 => ?_) (fun hz1 => ?_)
    refine xc_seq ?_
    refine xc_region ?_
    refine xo_rd (rd_assign rfl) rfl ?_
    refine xo_nil ?_
    refine xq_seq ?_
    refine xc_ret ?_
    refine xq_then_ret ?_
    rotate_left
    refine xc_skip ?_
    refine xq_seq ?_
    refine xc_seq ?_
    refine xc_region ?_
    refine xo_rd (rd_move rfl) rfl ?_
    refine xo_ef rfl (ef_call rfl (XF.mono (hvc _ (by intro z hz; simp [hz])) ?_))
    rintro v L' ⟨rfl, rfl⟩
    refine xo_rd (rd_assign rfl) rfl ?_
    refine xo_nil ?_
    refine xq_seq ?_
    refine xc_seq ?_
    refine xc_seq ?_
    refine xc_region ?_
    refine xo_rd (rd_move rfl) rfl ?_
    refine xo_rd (rd_lss rfl rfl) rfl ?_
    refine xo_nil ?_
    refine xq_seq ?_
    refine xc_dec rfl (fun hz2 => ?_) (fun hz2 => ?_)
    refine xc_seq ?_
    refine xc_region ?_
    refine xo_rd (rd_assign rfl) rfl ?_
    refine xo_nil ?_
    refine xq_seq ?_
    refine xc_ret ?_
    refine xq_then_ret ?_
    rotate_left
    refine xc_skip ?_
    refine xq_seq ?_
    rotate_left
  · refine xq_ret1 (.inl rfl) Try.results57 rfl ⟨es2, p3, c3, l3, y.i.f.bl, ?_, rfl, hok3, ?_⟩
    · unfold putV; rw [if_pos (by omega)]; rfl
    · unfold putV; rw [if_pos (by omega)]
  · refine xq_ret1 (.inl rfl) Try.results57 rfl ⟨es2, p3, c3, l3, y.i.f.bl, ?_, rfl, hok3, ?_⟩
    · unfold putV; rw [if_neg (by omega), if_pos hz2]; rfl
    · unfold putV; rw [if_neg (by omega), if_pos hz2]
  clear hvc hqr hfr
  obtain ⟨k, hk⟩ : ∃ k : Nat, victimA ca bg (es2.map En.a) = k := ⟨(victimA ca bg (es2.map En.a)).toNat, by omega⟩
  rw [hk] at hvl ⊢
  have hkl : k < es2.length := by omega
  have hR : Rs W ((r, .cells (qcl most ca bg p3 es2.length c3).toArray 108 (0, 0)) :: (l3 ++ (y.i.f.bl ++ M))) p3 (es2.flatMap En.enc) := hok3.o.rs (by intro z hz; simp [hz])
  obtain ⟨b, o, hp, hc⟩ := el_of hR hkl
  subst hp
  have hc1 := hc k hkl
  have e1 : es2[k]? = some es2[k] := List.getElem?_eq_getElem hkl
  generalize es2[k] = e3 at *
  have hset : (es2.flatMap En.enc).take (k * 17) ++ e3.note.enc ++ (es2.flatMap En.enc).drop (k * 17 + 17) = (es2.set k e3.note).flatMap En.enc := by
    rw [flat_setR En.len es2 k _ hkl, Nat.add_mul, Nat.one_mul]
  have hpv : putV most ca bg (es2.map En.a) = (settleA ((es2.set k e3.note).map En.a) k, 1) := by
    unfold putV
    rw [if_neg (by omega), if_neg (by omega), hk, Int.toNat_natCast, List.getElem?_map, e1, List.map_set, En.note_a]
    rfl
  rw [hpv]
  focus
    refine xc_seq ?_
    refine xc_drawM [0, 1, 2, 4, 0, 0, 32, 64, 128, 0, 768, 1024, 2048, 8191, 16383] [0, 1, 2, 4, 0, 0, 32, 64, 128, 0, 768, 1024, 2048, 8191, 16383] ((r, .cells (qcl most ca bg (some ⟨b, o, none⟩) es2.length c3).toArray 108 (0, 0)) :: M) (by kernel_rfl) (by kernel_rfl) (by kernel_rfl) ?_
    refine xm_take 0 (m' := 1) rfl (by kernel_rfl) (by first | exact Sb.refl | exact Sb.nil | (repeat (first | exact Sb.nil | exact Sb.refl | exact Sb.app0 | apply Sb.keep | apply Sb.keepApp | apply Sb.cons | apply Sb.app))) (rd_move rfl) rfl (by kernel_rfl) ?_
    refine xm_take 1 (m' := 3) rfl (by kernel_rfl) (by first | exact Sb.refl | exact Sb.nil | (repeat (first | exact Sb.nil | exact Sb.refl | exact Sb.app0 | apply Sb.keep | apply Sb.keepApp | apply Sb.cons | apply Sb.app))) (rd_nilCheck rfl) rfl (by kernel_rfl) ?_
    refine xm_take 2 (m' := 7) rfl (by kernel_rfl) (by first | exact Sb.refl | exact Sb.nil | (repeat (first | exact Sb.nil | exact Sb.refl | exact Sb.app0 | apply Sb.keep | apply Sb.keepApp | apply Sb.cons | apply Sb.app))) (rd_fieldAddr rfl) rfl (by kernel_rfl) ?_
    refine xm_take 3 (m' := 15) rfl (by kernel_rfl) (by first | exact Sb.refl | exact Sb.nil | (repeat (first | exact Sb.nil | exact Sb.refl | exact Sb.app0 | apply Sb.keep | apply Sb.keepApp | apply Sb.cons | apply Sb.app))) (rd_load1 rfl (Cl.o0 rfl)) rfl (by kernel_rfl) ?_
    refine xm_take 4 (m' := 31) rfl (by kernel_rfl) (by first | exact Sb.refl | exact Sb.nil | (repeat (first | exact Sb.nil | exact Sb.refl | exact Sb.app0 | apply Sb.keep | apply Sb.keepApp | apply Sb.cons | apply Sb.app))) (rd_move rfl) rfl (by kernel_rfl) ?_
    refine xm_take 5 (m' := 63) rfl (by kernel_rfl) (by first | exact Sb.refl | exact Sb.nil | (repeat (first | exact Sb.nil | exact Sb.refl | exact Sb.app0 | apply Sb.keep | apply Sb.keepApp | apply Sb.cons | apply Sb.app))) (rd_move rfl) rfl (by kernel_rfl) ?_
    refine xm_take 6 (m' := 127) rfl (by kernel_rfl) (by first | exact Sb.refl | exact Sb.nil | (repeat (first | exact Sb.nil | exact Sb.refl | exact Sb.app0 | apply Sb.keep | apply Sb.keepApp | apply Sb.cons | apply Sb.app))) (rd_nilCheck rfl) rfl (by kernel_rfl) ?_
    refine xm_take 7 (m' := 255) rfl (by kernel_rfl) (by first | exact Sb.refl | exact Sb.nil | (repeat (first | exact Sb.nil | exact Sb.refl | exact Sb.app0 | apply Sb.keep | apply Sb.keepApp | apply Sb.cons | apply Sb.app))) (rd_fieldAddr rfl) rfl (by kernel_rfl) ?_
    refine xm_take 8 (m' := 511) rfl (by kernel_rfl) (by first | exact Sb.refl | exact Sb.nil | (repeat (first | exact Sb.nil | exact Sb.refl | exact Sb.app0 | apply Sb.keep | apply Sb.keepApp | apply Sb.cons | apply Sb.app))) (rd_load1 rfl (Cl.o0 rfl)) rfl (by kernel_rfl) ?_
    refine xm_take 9 (m' := 1023) rfl (by kernel_rfl) (by first | exact Sb.refl | exact Sb.nil | (repeat (first | exact Sb.nil | exact Sb.refl | exact Sb.app0 | apply Sb.keep | apply Sb.keepApp | apply Sb.cons | apply Sb.app))) (rd_move rfl) rfl (by kernel_rfl) ?_
    refine xm_take 10 (m' := 2047) rfl (by kernel_rfl) (by first | exact Sb.refl | exact Sb.nil | (repeat (first | exact Sb.nil | exact Sb.refl | exact Sb.app0 | apply Sb.keep | apply Sb.keepApp | apply Sb.cons | apply Sb.app))) (rd_indexAddr rfl rfl (by omega) (by omega)) rfl (by kernel_rfl) ?_
    refine xm_one 11 (m' := 4095) rfl (by kernel_rfl) rfl (by kernel_rfl) (ef_rd (rd_loadA (vs := e3.enc) rfl rfl hc1) ?_)
    refine ⟨(by first | exact Sb.refl | exact Sb.nil | (repeat (first | exact Sb.nil | exact Sb.refl | exact Sb.app0 | apply Sb.keep | apply Sb.keepApp | apply Sb.cons | apply Sb.app))), ?_⟩
    refine xm_one 12 (m' := 8191) rfl (by kernel_rfl) rfl (by kernel_rfl) (ef_call rfl (XF.mono (xf_note e3) ?_))
    rintro v L' ⟨rfl, rfl⟩
    refine ⟨(by first | exact Sb.refl | exact Sb.nil | (repeat (first | exact Sb.nil | exact Sb.refl | exact Sb.app0 | apply Sb.keep | apply Sb.keepApp | apply Sb.cons | apply Sb.app))), ?_⟩
    refine xm_take 13 (m' := 16383) rfl (by kernel_rfl) (by first | exact Sb.refl | exact Sb.nil | (repeat (first | exact Sb.nil | exact Sb.refl | exact Sb.app0 | apply Sb.keep | apply Sb.keepApp | apply Sb.cons | apply Sb.app))) (rd_indexAddr rfl rfl (by omega) (by omega)) rfl (by kernel_rfl) ?_
    refine xm_one 14 (m' := 32767) rfl (by kernel_rfl) rfl (by kernel_rfl) (ef_storeQs (s := 17) (vs := e3.note.enc) [_] (y.i.f.bl ++ M) (k * 17) hok3.o rfl rfl rfl rfl rfl rfl (by dsimp only; omega) rfl fun l4 hO4 => ?_)
    refine ⟨(by first | exact Sb.refl | exact Sb.nil | (repeat (first | exact Sb.nil | exact Sb.refl | exact Sb.app0 | apply Sb.keep | apply Sb.keepApp | apply Sb.cons | apply Sb.app))), ?_⟩
    refine xm_done (by kernel_rfl) ?_
    refine xq_seq ?_
  all_goals
    rw [hset] at hO4
    have hsl : (es2.set k e3.note).length = es2.length := List.length_set
    have hok5 : (Qs.mk r most ca bg (es2.set k e3.note) (some ⟨b, o, none⟩) c3 l4).Ok W (y.i.f.bl ++ M0) := ⟨by dsimp only; rw [hsl]; exact hO4, fun z hz => by
      rcases List.mem_or_eq_of_mem_set hz with h | h
      · exact hok3.at' z h
      · rw [h]; exact zFr_at, fun z hz => by
      rcases List.mem_or_eq_of_mem_set hz with h | h
      · exact hok3.few z h
      · rw [h]; exact zFr_few, by dsimp only; rw [hsl]; exact hok3.len⟩
    have hst := xf_settle (M := y.i.f.bl ++ M) r most ca bg (es2.set k e3.note) (some ⟨b, o, none⟩) c3 l4 hok5 k (by rw [hsl]; exact hkl)
    rw [hsl] at hst
  focus
    refine xc_seq ?_
    refine xc_region ?_
    refine xo_rd (rd_move rfl) rfl ?_
    refine xo_rd (rd_move rfl) rfl ?_
    refine xo_ef rfl (ef_call rfl (XF.mono (hst) ?_))
    rintro v L' ⟨rfl, es6, p6, c6, l6, rfl, hok6, hm6⟩
    refine xo_nil ?_
    refine xq_seq ?_
    refine xc_seq ?_
    refine xc_region ?_
    refine xo_rd (rd_assign rfl) rfl ?_
    refine xo_nil ?_
    refine xq_seq ?_
    refine xc_ret ?_
  exact xq_ret1 (.inl rfl) Try.results57 rfl ⟨es6, p6, c6, l6, y.i.f.bl, rfl, rfl, hok6, hm6⟩
end Go.Proofs.Ytpheiklhjelkcaa.X
/-
  Chapter 19: entries are put, one behind the other; the first one; a queue begins, and shifts: walks of my own.
-/
namespace Go.Proofs.Ytpheiklhjelkcaa.X
open Go Go.RowKit
set_option linter.unusedVariables false
set_option linter.unusedSimpArgs false
theorem putV_len (most : Int) (ca bg : Bool) (l : List Ea) : (putV most ca bg l).1.length ≤ l.length := by
  unfold putV
  split
  · exact Nat.le_refl _
  · split
    · exact Nat.le_refl _
    · split
      · exact Nat.le_trans (settleA_len _ _) (by rw [List.length_set]; exact Nat.le_refl _)
      · exact Nat.le_refl _
theorem putA_len (most : Int) (ca bg : Bool) (l : List Ea) (e : Ea) : (putA most ca bg l e).1.length ≤ l.length + 1 := by
  unfold putA
  refine Nat.le_trans (putV_len _ _ _ _) (Nat.le_trans (settleA_len _ _) ?_)
  simp
theorem putV_one (most : Int) (ca bg : Bool) (l : List Ea) : (putV most ca bg l).2 ≤ 1 := by
  unfold putV
  split
  · simp
  · split
    · simp
    · split <;> simp
theorem putA_one (most : Int) (ca bg : Bool) (l : List Ea) (e : Ea) : (putA most ca bg l e).2 ≤ 1 := putV_one _ _ _ _
def putS (most : Int) (ca bg : Bool) (s : List Ea × Nat) (e : Ea) : List Ea × Nat := ((putA most ca bg s.1 e).1, s.2 + (putA most ca bg s.1 e).2)
def putsA (most : Int) (ca bg : Bool) (l : List Ea) (xs : List Ea) : List Ea × Nat := xs.foldl (putS most ca bg) (l, 0)
theorem putsA_take (most : Int) (ca bg : Bool) (l xs : List Ea) (k : Nat) (h : k < xs.length) : putsA most ca bg l (xs.take (k + 1)) = putS most ca bg (putsA most ca bg l (xs.take k)) xs[k] := by
  unfold putsA; rw [List.take_add_one, List.getElem?_eq_getElem h, Option.toList_some, List.foldl_append]; rfl
theorem perm_q1 (a b : Blk) (l R : List Blk) : (a :: b :: (l ++ R)).Perm (b :: (l ++ (a :: R))) := (by classical exact List.perm_iff_count.2 fun a => by simp only [List.append_eq, List.count_append, List.count_cons, List.count_nil, List.cons_append, List.nil_append, List.flatMap_append, List.flatMap_cons, List.flatMap_nil, List.append_nil]; omega)
/-- The state of Put. -/
structure PuS where
  i : Nat
  es : List En
  p : Option Addr
  c : Nat
  l : List Blk
  N : List Blk
set_option maxHeartbeats 1600000 in
theorem xf_Put {W : World} {M M0 : List Blk} (r : Nat) (most : Int) (ca bg : Bool) (es : List En) (p : Option Addr) (c : Nat) (l : List Blk) (hx : (Qs.mk r most ca bg es p c l).Ok W M0) (pv : Option Addr) (nv cv : Nat) (xs : List En) (hv : Rs W M pv (xs.flatMap En.enc)) (hvl : xs.length = nv) (hat : ∀ e, e ∈ xs → e.i.f.At W M) (hf : ∀ e, e ∈ xs → e.i.f.Few) (hlen : es.length + nv + 1 ≤ 1000000) :
    XF Try.prog W 22 #[.pointer (some ⟨r, 0, none⟩), .slice pv nv cv] ((r, .cells (qcl most ca bg p es.length c).toArray 108 (0, 0)) :: (l ++ M)) (fun v L' => ∃ es' p c l N, v = .int .i64 (putsA most ca bg (es.map En.a) (xs.map En.a)).2 ∧ L' = (r, .cells (qcl most ca bg p es'.length c).toArray 108 (0, 0)) :: (l ++ (N ++ M)) ∧ (Qs.mk r most ca bg es' p c l).Ok W (N ++ M0) ∧ es'.map En.a = (putsA most ca bg (es.map En.a) (xs.map En.a)).1) := by
  refine xf_enter (args := [_, _]) Try.func22 rfl Try.ntmps22 rfl ?_
  focus
    refine xc_seq ?_
    refine xc_region ?_
    refine xo_rd (rd_assign rfl) rfl ?_
    refine xo_nil ?_
    refine xq_seq ?_
    refine xc_seq ?_
    refine xc_seq ?_
    refine xc_region ?_
    refine xo_rd (rd_move rfl) rfl ?_
    refine xo_rd (rd_eqnil rfl) rfl ?_
    refine xo_nil ?_
    refine xq_seq ?_
    refine xc_condf rfl ?_
    refine xc_skip ?_
    refine xq_seq ?_
    refine xc_seq ?_
    refine xc_seq ?_
    refine xc_region ?_
    refine xo_rd (rd_move rfl) rfl ?_
    refine xo_rd (rd_len rfl) rfl ?_
    refine xo_rd (rd_move rfl) rfl ?_
    refine xo_nil ?_
    refine xq_seq ?_
    refine xc_block ?_
  refine xc_loopI (ι := PuS) (fun s => s.i ≤ nv ∧ s.es.length ≤ es.length + s.i ∧ (Qs.mk r most ca bg s.es s.p s.c s.l).Ok W (s.N ++ M0) ∧ s.es.map En.a = (putsA most ca bg (es.map En.a) ((xs.map En.a).take s.i)).1 ∧ (putsA most ca bg (es.map En.a) ((xs.map En.a).take s.i)).2 ≤ s.i) (fun s => nv - s.i) (fun s => (r, .cells (qcl most ca bg s.p s.es.length s.c).toArray 108 (0, 0)) :: (s.l ++ (s.N ++ M))) (fun s => [(0, .pointer (some ⟨r, 0, none⟩)), (4, .int .i64 (putsA most ca bg (es.map En.a) ((xs.map En.a).take s.i)).2), (9, .slice pv nv cv), (10, .int .i64 nv), (11, .int .i64 s.i)]) ⟨0, es, p, c, l, []⟩ ⟨Nat.zero_le _, Nat.le_refl _, hx, rfl, Nat.le_refl _⟩ rfl (by repeat (first | exact keep_nil | refine keep_cons rfl ?_)) ?_
  rintro ⟨i, es1, p1, c1, l1, N⟩ ⟨hi, hle, hok, hm, hct⟩
  dsimp only at hi hle hok hm hct ⊢
  by_cases hin : i < nv
  · obtain ⟨b, o, hp, hc⟩ := el_of hv (i := i) (by omega)
    subst hp
    have hci := hc i (by omega)
    have k1 := hat xs[i] (List.getElem_mem _)
    have k2 := hf xs[i] (List.getElem_mem _)
    have ht := putsA_take most ca bg (es.map En.a) (xs.map En.a) i (by rw [List.length_map]; omega)
    rw [List.getElem_map] at ht
    generalize xs[i] = e at *
    generalize putsA most ca bg (es.map En.a) ((xs.map En.a).take i) = s at *
    have hp1 := putA_one most ca bg s.1 e.a
    have hpl := putA_len most ca bg s.1 e.a
    have hcI : ∀ L', (∀ z, z ∈ M → z ∈ L') → ∀ (j : Nat) (u : Value), e.enc[j]? = some u → Cl W L' b (o + (i : Int).toNat * 17 + j) u := fun L' h j u hj => (hci j u hj).mono h
    have hput := fun Mx (h : ∀ z, z ∈ N ++ M → z ∈ Mx) => xf_put (M := Mx) (M0 := N ++ M0) r most ca bg es1 p1 c1 l1 hok (by omega) e (k1.mono fun z hz => h z (List.mem_append_right _ hz)) k2
    rw [hm] at hput
    focus
      refine xc_seq ?_
      refine xc_region ?_
      refine xo_rd (rd_lss rfl rfl) rfl ?_
      refine xo_nil ?_
      refine xq_seq ?_
      refine xc_seq ?_
      refine xc_dec rfl (fun hz1 => ?_) (fun hz1 => (by exfalso; omega))
      refine xc_skip ?_
      refine xq_seq ?_
      refine xc_seq ?_
      refine xc_block ?_
      refine xc_seq ?_
      refine xc_region ?_
      refine xo_rd (rd_indexAddr rfl rfl (by omega) (by omega)) rfl ?_
      refine xo_rd (rd_loadA (vs := e.enc) rfl rfl (hcI _ (by intro z hz; simp [hz]))) rfl ?_
      refine xo_ef rfl (ef_alloc fun r6 => ?_)
      refine xo_ef rfl (ef_storeB [] _ rfl rfl (by first | rfl | assumption) rfl rfl rfl ?_)
      refine xo_nil ?_
      refine xq_seq ?_
      refine xc_region ?_
      refine xo_rd (rd_move rfl) rfl ?_
      refine xo_rd (rd_move rfl) rfl ?_
      refine xo_rd (rd_loadB rfl Kn.o0 (by rfl)) rfl ?_
      refine xo_ef rfl (ef_call rfl (XF.mono ((hput ((r6, .cells e.enc.toArray 45 (0, 0)) :: (N ++ M)) (by intro z hz; simp [hz])).perm (perm_q1 _ _ l1 (N ++ M))) ?_))
      rintro v L' ⟨es2, p2, c2, l2, N2, rfl, rfl, hok2, hm2⟩
      refine xo_rd (rd_addn rfl rfl (by omega) (by omega)) rfl ?_
      refine xo_rd (rd_assign rfl) rfl ?_
      refine xo_nil ?_
      refine xq_block ?_
      refine xq_seq ?_
      refine xc_region ?_
      refine xo_rd (rd_addn rfl rfl (by omega) (by omega)) rfl ?_
      refine xo_rd (rd_move rfl) rfl ?_
      refine xo_nil ?_
    have hl2 : es2.length ≤ es1.length + 1 := by
      have := congrArg List.length hm2
      rw [List.length_map] at this
      have hs1 : s.1.length = es1.length := by rw [← hm, List.length_map]
      omega
    refine xq_roundI (⟨i + 1, es2, p2, c2, l2, N2 ++ ((r6, .cells e.enc.toArray 45 (0, 0)) :: N)⟩ : PuS) ⟨by dsimp only; omega, by dsimp only; omega, ?_, ?_, ?_⟩ (by dsimp only; omega) (by dsimp only; rw [List.append_assoc, List.cons_append]) ?_
    · dsimp only; rw [List.append_assoc, List.cons_append]; exact hok2.mono fun z hz => by
        rcases List.mem_append.1 hz with h | h
        · exact List.mem_append_left _ h
        · exact List.mem_append_right _ (List.mem_cons_of_mem _ h)
    · dsimp only; rw [ht]; exact hm2
    · dsimp only; rw [ht]; unfold putS; dsimp only; omega
    · dsimp only
      rw [ht]
      unfold putS
      dsimp only
      rw [show ((s.2 + (putA most ca bg s.1 e.a).2 : Nat) : Int) = (s.2 : Int) + ((putA most ca bg s.1 e.a).2 : Nat) from rfl]
      exact (by repeat (first | exact keep_nil | refine keep_cons rfl ?_))
  · skip
    focus
      refine xc_seq ?_
      refine xc_region ?_
      refine xo_rd (rd_lss rfl rfl) rfl ?_
      refine xo_nil ?_
      refine xq_seq ?_
      refine xc_seq ?_
      refine xc_dec rfl (fun h1 => (by exfalso; omega)) (fun h1 => ?_)
      refine xc_exit ?_
      refine xq_then_exit ?_
      refine xq_then_exit ?_
      refine xq_block_hit ?_
      refine xq_seq ?_
      refine xc_seq ?_
      refine xc_region ?_
      refine xo_rd (rd_move rfl) rfl ?_
      refine xo_rd (rd_assign rfl) rfl ?_
      refine xo_nil ?_
      refine xq_seq ?_
      refine xc_ret ?_
    have hiN : i = nv := by omega
    subst hiN
    rw [List.take_of_length_le (by rw [List.length_map]; omega)] at hm ⊢
    exact xq_ret1 (.inl rfl) Try.results22 rfl ⟨es1, p1, c1, l1, N, rfl, rfl, hok, hm⟩
/-- Put, of no queue. -/
theorem xf_Put0 {W : World} {L : List Blk} (pv : Option Addr) (nv cv : Nat) : XF Try.prog W 22 #[.pointer none, .slice pv nv cv] L (fun v L' => v = .int .i64 0 ∧ L' = L) := by
  refine xf_enter (args := [_, _]) Try.func22 rfl Try.ntmps22 rfl ?_
  focus
    refine xc_seq ?_
    refine xc_region ?_
    refine xo_rd (rd_assign rfl) rfl ?_
    refine xo_nil ?_
    refine xq_seq ?_
    refine xc_seq ?_
    refine xc_seq ?_
    refine xc_region ?_
    refine xo_rd (rd_move rfl) rfl ?_
    refine xo_rd (rd_eqnil rfl) rfl ?_
    refine xo_nil ?_
    refine xq_seq ?_
    refine xc_condt rfl ?_
    refine xc_seq ?_
    refine xc_region ?_
    refine xo_rd (rd_assign rfl) rfl ?_
    refine xo_nil ?_
    refine xq_seq ?_
    refine xc_ret ?_
    refine xq_then_ret ?_
  exact xq_ret1 (.inl rfl) Try.results22 rfl ⟨rfl, rfl⟩
def zEn : En := ⟨0, 0, ⟨false, false, 0, false, zFr⟩⟩
/-- First. -/
theorem xf_First0 {W : World} {L : List Blk} (x : Qs) (hx : QR W L x) (h0 : x.es = []) : XF Try.prog W 23 #[.pointer (some ⟨x.r, 0, none⟩)] L (fun v L' => v = .tuple #[.agg zEn.enc.toArray, .bool false] ∧ L' = L) := by
  have h3 := hx.c3
  rw [h0] at h3
  refine xf_enter (args := [_]) Try.func23 rfl Try.ntmps23 rfl ?_
  focus
    refine xc_seq ?_
    refine xc_region ?_
    refine xo_ef rfl (ef_alloc fun r2 => ?_)
    refine xo_rd (rd_assign rfl) rfl ?_
    refine xo_nil ?_
    refine xq_seq ?_
    refine xc_seq ?_
    refine xc_seq ?_
    refine xc_region ?_
    refine xo_rd (rd_move rfl) rfl ?_
    refine xo_rd (rd_eqnil rfl) rfl ?_
    refine xo_rd (rd_move rfl) rfl ?_
    refine xo_grd rfl rfl (rd_move rfl) rfl ?_
    refine xo_grd rfl rfl (rd_nilCheck rfl) rfl ?_
    refine xo_grd rfl rfl (rd_fieldAddr rfl) rfl ?_
    refine xo_grd rfl rfl (rd_load1 rfl (h3.mono (by intro z hz; simp [hz]))) rfl ?_
    refine xo_grd rfl rfl (rd_len rfl) rfl ?_
    refine xo_grd rfl rfl (rd_eql rfl rfl) rfl ?_
    refine xo_rd (rd_pickf rfl rfl) rfl ?_
    refine xo_nil ?_
    refine xq_seq ?_
    refine xc_condt rfl ?_
    refine xc_seq ?_
    refine xc_region ?_
    refine xo_rd (rd_cast (v' := .agg zEn.enc.toArray) (rd_build (T := 45) rfl rfl rfl) (by kernel_rfl)) rfl ?_
    refine xo_ef rfl (ef_storeB [] _ rfl rfl (by first | rfl | assumption) rfl rfl rfl ?_)
    refine xo_rd (rd_assign rfl) rfl ?_
    refine xo_nil ?_
    refine xq_seq ?_
    refine xc_ret ?_
    refine xq_then_ret ?_
  exact xq_retB2 (.inl rfl) Try.results23 rfl rfl Kn.o0 rfl (List.sublist_cons_self _ _) ⟨rfl, rfl⟩
theorem xf_First {W : World} {L : List Blk} (x : Qs) (hx : QR W L x) (h0 : 0 < x.es.length) (hat : (x.es[0]).i.f.At W L) (hf : (x.es[0]).i.f.Few) : XF Try.prog W 23 #[.pointer (some ⟨x.r, 0, none⟩)] L (fun v L' => ∃ y : En, v = .tuple #[.agg y.enc.toArray, .bool true] ∧ y.a = (x.es[0]).a ∧ y.i.f.Ok 116 ∧ L' = y.i.f.bl ++ L) := by
  have h3 := hx.c3
  obtain ⟨b, o, hp, hc⟩ := hx.el h0
  rw [hp] at h3
  generalize x.es[0] = e at *
  refine xf_enter (args := [_]) Try.func23 rfl Try.ntmps23 rfl ?_
  focus
    refine xc_seq ?_
    refine xc_region ?_
    refine xo_ef rfl (ef_alloc fun r2 => ?_)
    refine xo_rd (rd_assign rfl) rfl ?_
    refine xo_nil ?_
    refine xq_seq ?_
    refine xc_seq ?_
    refine xc_seq ?_
    refine xc_region ?_
    refine xo_rd (rd_move rfl) rfl ?_
    refine xo_rd (rd_eqnil rfl) rfl ?_
    refine xo_rd (rd_move rfl) rfl ?_
    refine xo_grd rfl rfl (rd_move rfl) rfl ?_
    refine xo_grd rfl rfl (rd_nilCheck rfl) rfl ?_
    refine xo_grd rfl rfl (rd_fieldAddr rfl) rfl ?_
    refine xo_grd rfl rfl (rd_load1 rfl (h3.mono (by intro z hz; simp [hz]))) rfl ?_
    refine xo_grd rfl rfl (rd_len rfl) rfl ?_
    refine xo_grd rfl rfl (rd_eql rfl rfl) rfl ?_
    refine xo_rd (rd_pickf rfl rfl) rfl ?_
    refine xo_nil ?_
    refine xq_seq ?_
    refine xc_dec rfl (fun h1 => (by exfalso; omega)) (fun h1 => ?_)
    refine xc_skip ?_
    refine xq_seq ?_
    refine xc_seq ?_
    refine xc_region ?_
    refine xo_rd (rd_move rfl) rfl ?_
    refine xo_rd (rd_nilCheck rfl) rfl ?_
    refine xo_rd (rd_fieldAddr rfl) rfl ?_
    refine xo_rd (rd_load1 rfl (h3.mono (by intro z hz; simp [hz]))) rfl ?_
    refine xo_rd (rd_indexAddr rfl rfl (by omega) (by omega)) rfl ?_
    refine xo_rd (rd_loadA (vs := e.enc) rfl rfl (fun j u hj => (hc j u hj).skip)) rfl ?_
    refine xo_ef rfl (ef_call rfl (XF.mono (xf_copied e (hat.mono (by intro z hz; simp [hz])) hf) ?_))
    rintro v L' ⟨y, rfl, hya, hyo, rfl⟩
    refine xo_seg [_] y.i.f.bl _ ?_
    refine xo_ef rfl (ef_storeB [] _ rfl rfl (by first | rfl | assumption) rfl rfl rfl ?_)
    refine xo_rd (rd_assign rfl) rfl ?_
    refine xo_nil ?_
    refine xq_seq ?_
    refine xc_ret ?_
  exact xq_retB2 (.inl rfl) Try.results23 rfl rfl Kn.o0 rfl (List.sublist_cons_self _ _) ⟨y, rfl, hya, hyo, rfl⟩
theorem xf_FirstN {W : World} {L : List Blk} : XF Try.prog W 23 #[.pointer none] L (fun v L' => v = .tuple #[.agg zEn.enc.toArray, .bool false] ∧ L' = L) := by
  refine xf_enter (args := [_]) Try.func23 rfl Try.ntmps23 rfl ?_
  focus
    refine xc_seq ?_
    refine xc_region ?_
    refine xo_ef rfl (ef_alloc fun r2 => ?_)
    refine xo_rd (rd_assign rfl) rfl ?_
    refine xo_nil ?_
    refine xq_seq ?_
    refine xc_seq ?_
    refine xc_seq ?_
    refine xc_region ?_
    refine xo_rd (rd_move rfl) rfl ?_
    refine xo_rd (rd_eqnil rfl) rfl ?_
    refine xo_rd (rd_move rfl) rfl ?_
    refine xo_gskip rfl rfl rfl rfl ?_
    refine xo_gskip rfl rfl rfl rfl ?_
    refine xo_gskip rfl rfl rfl rfl ?_
    refine xo_gskip rfl rfl rfl rfl ?_
    refine xo_gskip rfl rfl rfl rfl ?_
    refine xo_gskip rfl rfl rfl rfl ?_
    refine xo_rd (rd_pickt rfl rfl) rfl ?_
    refine xo_nil ?_
    refine xq_seq ?_
    refine xc_condt rfl ?_
    refine xc_seq ?_
    refine xc_region ?_
    refine xo_rd (rd_cast (v' := .agg zEn.enc.toArray) (rd_build (T := 45) rfl rfl rfl) (by kernel_rfl)) rfl ?_
    refine xo_ef rfl (ef_storeB [] _ rfl rfl (by first | rfl | assumption) rfl rfl rfl ?_)
    refine xo_rd (rd_assign rfl) rfl ?_
    refine xo_nil ?_
    refine xq_seq ?_
    refine xc_ret ?_
    refine xq_then_ret ?_
  exact xq_retB2 (.inl rfl) Try.results23 rfl rfl Kn.o0 rfl (List.sublist_cons_self _ _) ⟨rfl, rfl⟩
/-- Shift. -/
theorem xf_Shift0 {W : World} {L : List Blk} (x : Qs) (hx : QR W L x) (h0 : x.es = []) : XF Try.prog W 16 #[.pointer (some ⟨x.r, 0, none⟩)] L (fun v L' => v = .tuple #[.agg zEn.enc.toArray, .bool false] ∧ L' = L) := by
  refine xf_enter (args := [_]) Try.func16 rfl Try.ntmps16 rfl ?_
  focus
    refine xc_seq ?_
    refine xc_region ?_
    refine xo_ef rfl (ef_alloc fun r2 => ?_)
    refine xo_rd (rd_assign rfl) rfl ?_
    refine xo_nil ?_
    refine xq_seq ?_
    refine xc_seq ?_
    refine xc_region ?_
    refine xo_rd (rd_move rfl) rfl ?_
    refine xo_ef rfl (ef_call rfl (XF.mono (xf_First0 x (hx.mono (by intro z hz; simp [hz])) h0) ?_))
    rintro v L' ⟨rfl, rfl⟩
    refine xo_rd (rd_move rfl) rfl ?_
    refine xo_rd (rd_extract rfl rfl) rfl ?_
    refine xo_rd (rd_extract rfl rfl) rfl ?_
    refine xo_ef rfl (ef_alloc fun r4 => ?_)
    refine xo_ef rfl (ef_storeB [] _ rfl rfl (by first | rfl | assumption) rfl rfl rfl ?_)
    refine xo_rd (rd_assign rfl) rfl ?_
    refine xo_nil ?_
    refine xq_seq ?_
    refine xc_seq ?_
    refine xc_seq ?_
    refine xc_region ?_
    refine xo_rd (rd_move rfl) rfl ?_
    refine xo_nil ?_
    refine xq_seq ?_
    refine xc_condf rfl ?_
    refine xc_skip ?_
    refine xq_seq ?_
    refine xc_seq ?_
    refine xc_region ?_
    refine xo_rd (rd_loadB rfl Kn.o0 (by rfl)) rfl ?_
    refine xo_rd (rd_move rfl) rfl ?_
    refine xo_ef rfl (ef_storeB [_] _ rfl rfl (by first | rfl | assumption) rfl rfl rfl ?_)
    refine xo_rd (rd_assign rfl) rfl ?_
    refine xo_nil ?_
    refine xq_seq ?_
    refine xc_ret ?_
  exact xq_retB2 (.inl rfl) Try.results16 rfl rfl Kn.o1 rfl (List.sublist_append_right [_, _] _) ⟨rfl, rfl⟩
theorem xf_ShiftN {W : World} {L : List Blk} : XF Try.prog W 16 #[.pointer none] L (fun v L' => v = .tuple #[.agg zEn.enc.toArray, .bool false] ∧ L' = L) := by
  refine xf_enter (args := [_]) Try.func16 rfl Try.ntmps16 rfl ?_
  focus
    refine xc_seq ?_
    refine xc_region ?_
    refine xo_ef rfl (ef_alloc fun r2 => ?_)
    refine xo_rd (rd_assign rfl) rfl ?_
    refine xo_nil ?_
    refine xq_seq ?_
    refine xc_seq ?_
    refine xc_region ?_
    refine xo_rd (rd_move rfl) rfl ?_
    refine xo_ef rfl (ef_call rfl (XF.mono (xf_FirstN) ?_))
    rintro v L' ⟨rfl, rfl⟩
    refine xo_rd (rd_move rfl) rfl ?_
    refine xo_rd (rd_extract rfl rfl) rfl ?_
    refine xo_rd (rd_extract rfl rfl) rfl ?_
    refine xo_ef rfl (ef_alloc fun r4 => ?_)
    refine xo_ef rfl (ef_storeB [] _ rfl rfl (by first | rfl | assumption) rfl rfl rfl ?_)
    refine xo_rd (rd_assign rfl) rfl ?_
    refine xo_nil ?_
    refine xq_seq ?_
    refine xc_seq ?_
    refine xc_seq ?_
    refine xc_region ?_
    refine xo_rd (rd_move rfl) rfl ?_
    refine xo_nil ?_
    refine xq_seq ?_
    refine xc_condf rfl ?_
    refine xc_skip ?_
    refine xq_seq ?_
    refine xc_seq ?_
    refine xc_region ?_
    refine xo_rd (rd_loadB rfl Kn.o0 (by rfl)) rfl ?_
    refine xo_rd (rd_move rfl) rfl ?_
    refine xo_ef rfl (ef_storeB [_] _ rfl rfl (by first | rfl | assumption) rfl rfl rfl ?_)
    refine xo_rd (rd_assign rfl) rfl ?_
    refine xo_nil ?_
    refine xq_seq ?_
    refine xc_ret ?_
  exact xq_retB2 (.inl rfl) Try.results16 rfl rfl Kn.o1 rfl (List.sublist_append_right [_, _] _) ⟨rfl, rfl⟩
theorem xf_Shift {W : World} {M M0 : List Blk} (r : Nat) (most : Int) (ca bg : Bool) (e : En) (es : List En) (p : Option Addr) (c : Nat) (l : List Blk) (hx : (Qs.mk r most ca bg (e :: es) p c l).Ok W M0) (hM : ∀ z, z ∈ M0 → z ∈ M) :
    XF Try.prog W 16 #[.pointer (some ⟨r, 0, none⟩)] ((r, .cells (qcl most ca bg p (e :: es).length c).toArray 108 (0, 0)) :: (l ++ M)) (fun v L' => ∃ y p' c', v = .tuple #[.agg (En.enc y).toArray, .bool true] ∧ y.a = e.a ∧ y.i.f.Ok 116 ∧ (Qs.mk r most ca false es p' c' l).Ok W M0 ∧ L' = y.i.f.bl ++ ((r, .cells (qcl most ca false p' es.length c').toArray 108 (0, 0)) :: (l ++ M))) := by
  obtain ⟨xq, hxq⟩ : ∃ x, x = Qs.mk r most ca bg (e :: es) p c l := ⟨_, rfl⟩
  have hfi : ∀ L', (∀ z, z ∈ ((r, Obj.cells (qcl most ca bg p (e :: es).length c).toArray 108 (0, 0)) :: (l ++ M) : List Blk) → z ∈ L') → XF Try.prog W 23 #[.pointer (some ⟨r, 0, none⟩)] L' (fun v L'' => ∃ y : En, v = .tuple #[.agg y.enc.toArray, .bool true] ∧ y.a = e.a ∧ y.i.f.Ok 116 ∧ L'' = y.i.f.bl ++ L') := fun L' h =>
    xf_First (Qs.mk r most ca bg (e :: es) p c l) (hx.qr fun z hz => h z (List.mem_append_left _ hz)) (Nat.succ_pos _) ((hx.at' e (List.mem_cons_self ..)).mono fun z hz => h z (List.mem_cons_of_mem _ (List.mem_append_right _ (hM z hz)))) (hx.few e (List.mem_cons_self ..))
  refine xf_enter (args := [_]) Try.func16 rfl Try.ntmps16 rfl ?_
  focus
    refine xc_seq ?_
    refine xc_region ?_
    refine xo_ef rfl (ef_alloc fun r2 => ?_)
    refine xo_rd (rd_assign rfl) rfl ?_
    refine xo_nil ?_
    refine xq_seq ?_
    refine xc_seq ?_
    refine xc_region ?_
    refine xo_rd (rd_move rfl) rfl ?_
    refine xo_ef rfl (ef_call rfl (XF.mono (hfi _ (fun z hz => List.mem_cons_of_mem _ hz)) ?_))
    rintro v L' ⟨y, rfl, hya, hyo, rfl⟩
    refine xo_seg [_, _] y.i.f.bl _ ?_
    refine xo_rd (rd_move rfl) rfl ?_
    refine xo_rd (rd_extract rfl rfl) rfl ?_
    refine xo_rd (rd_extract rfl rfl) rfl ?_
    refine xo_ef rfl (ef_alloc fun r4 => ?_)
    refine xo_ef rfl (ef_storeB [] _ rfl rfl (by first | rfl | assumption) rfl rfl rfl ?_)
    refine xo_rd (rd_assign rfl) rfl ?_
    refine xo_nil ?_
    refine xq_seq ?_
    refine xc_seq ?_
    refine xc_seq ?_
    refine xc_region ?_
    refine xo_rd (rd_move rfl) rfl ?_
    refine xo_nil ?_
    refine xq_seq ?_
    refine xc_condt rfl ?_
    refine xc_region ?_
    refine xo_rd (rd_move rfl) rfl ?_
    refine xo_rd (rd_move rfl) rfl ?_
    refine xo_rd (rd_move rfl) rfl ?_
    refine xo_rd (rd_nilCheck rfl) rfl ?_
    refine xo_rd (rd_fieldAddr rfl) rfl ?_
    refine xo_rd (rd_load1 rfl (Cl.o2 rfl)) rfl ?_
    refine xo_rd (rd_cast (v' := .slice (slp p c 1 17) es.length (c - 1)) (rd_slLo rfl rfl (by decide) (by show (1 : Int) ≤ ((es.length + 1 : Nat) : Int); omega)) rfl) rfl ?_
    refine xo_rd (rd_nilCheck rfl) rfl ?_
    refine xo_rd (rd_fieldAddr rfl) rfl ?_
    refine xo_ef rfl (ef_store1 [_, _] _ rfl rfl (by first | rfl | assumption) rfl rfl rfl ?_)
    refine xo_rd (rd_nilCheck rfl) rfl ?_
    refine xo_rd (rd_fieldAddr rfl) rfl ?_
    refine xo_ef rfl (ef_store1 [_, _] _ rfl rfl (by first | rfl | assumption) rfl rfl rfl ?_)
    refine xo_nil ?_
    refine xq_seq ?_
    refine xc_seq ?_
    refine xc_region ?_
    refine xo_rd (rd_loadB rfl Kn.o0 (by rfl)) rfl ?_
    refine xo_rd (rd_move rfl) rfl ?_
    refine xo_ef rfl (ef_storeB [_] _ rfl rfl (by first | rfl | assumption) rfl rfl rfl ?_)
    refine xo_rd (rd_assign rfl) rfl ?_
    refine xo_nil ?_
    refine xq_seq ?_
    refine xc_ret ?_
  refine xq_permT [_, _] (List.perm_middle (a := (r, _)) (l₁ := y.i.f.bl) (l₂ := l ++ M)).symm (xq_retB2 (.inl rfl) Try.results16 rfl rfl Kn.o1 rfl (List.sublist_append_right [_, _] _) ⟨y, slp p c 1 17, c - 1, rfl, hya, hyo, ⟨?_, fun z hz => hx.at' z (List.mem_cons_of_mem _ hz), fun z hz => hx.few z (List.mem_cons_of_mem _ hz), ?_⟩, rfl⟩)
  · have h1 := hx.o.cut 1 (Nat.succ_pos _)
    dsimp only at h1 ⊢
    rw [List.flatMap_cons, Nat.one_mul, List.drop_left' (En.len e)] at h1
    exact h1
  · have := hx.len
    dsimp only at this ⊢
    rw [List.length_cons] at this
    omega
theorem xf_Begin {W : World} {R : List Blk} (r : Nat) (most : Int) (ca bg : Bool) (es : List En) (p : Option Addr) (c : Nat) (hR : Rs W R p (es.flatMap En.enc)) :
    XF Try.prog W 14 #[.pointer (some ⟨r, 0, none⟩)] ((r, .cells (qcl most ca bg p es.length c).toArray 108 (0, 0)) :: R) (fun v L' => v = .bool (freshA (es.map En.a) bg 0) ∧ L' = (r, .cells (qcl most ca (bg || freshA (es.map En.a) bg 0) p es.length c).toArray 108 (0, 0)) :: R) := by
  obtain ⟨sf, hsf⟩ : ∃ s, freshA (es.map En.a) bg 0 = s := ⟨_, rfl⟩
  rw [hsf]
  have hqr : QR W ((r, Obj.cells (qcl most ca bg p es.length c).toArray 108 (0, 0)) :: R) (Qs.mk r most ca bg es p c []) :=
    ⟨Cl.o0 rfl, Cl.o0 rfl, Cl.o0 rfl, Cl.o0 rfl, hR.skip⟩
  refine xf_enter (args := [_]) Try.func14 rfl Try.ntmps14 rfl ?_
  by_cases h0 : 0 < es.length
  · skip
    focus
      refine xc_seq ?_
      refine xc_region ?_
      refine xo_rd (rd_assign rfl) rfl ?_
      refine xo_nil ?_
      refine xq_seq ?_
      refine xc_seq ?_
      refine xc_seq ?_
      refine xc_region ?_
      refine xo_rd (rd_move rfl) rfl ?_
      refine xo_rd (rd_eqnil rfl) rfl ?_
      refine xo_rd (rd_move rfl) rfl ?_
      refine xo_grd rfl rfl (rd_move rfl) rfl ?_
      refine xo_grd rfl rfl (rd_nilCheck rfl) rfl ?_
      refine xo_grd rfl rfl (rd_fieldAddr rfl) rfl ?_
      refine xo_grd rfl rfl (rd_load1 rfl (Cl.o0 rfl)) rfl ?_
      refine xo_grd rfl rfl (rd_len rfl) rfl ?_
      refine xo_grd rfl rfl (rd_eql rfl rfl) rfl ?_
      refine xo_rd (rd_pickf rfl rfl) rfl ?_
      refine xo_rd (rd_move rfl) rfl ?_
      refine xo_dec 13 rfl (fun hz1 => (by exfalso; omega)) (fun hz1 => ?_)
      refine xo_grd rfl rfl (rd_move rfl) rfl ?_
      refine xo_gef rfl rfl rfl (ef_call rfl (XF.mono (xf_fresh (Qs.mk r most ca bg es p c []) hqr 0 h0 sf hsf) ?_))
      rintro v L' ⟨rfl, rfl⟩
      refine xo_grd rfl rfl (rd_not rfl) rfl ?_
      refine xo_rd (rd_pickf rfl rfl) rfl ?_
      refine xo_nil ?_
      refine xq_seq ?_
      refine xc_cond rfl (fun hz2 => ?_) (fun hz2 => ?_)
      refine xc_seq ?_
      refine xc_region ?_
      refine xo_rd (rd_assign rfl) rfl ?_
      refine xo_nil ?_
      refine xq_seq ?_
      refine xc_ret ?_
      refine xq_then_ret ?_
      rotate_left
      refine xc_skip ?_
      refine xq_seq ?_
      refine xc_seq ?_
      refine xc_region ?_
      refine xo_rd (rd_move rfl) rfl ?_
      refine xo_rd (rd_nilCheck rfl) rfl ?_
      refine xo_rd (rd_fieldAddr rfl) rfl ?_
      refine xo_ef rfl (ef_store1 [] _ rfl rfl (by first | rfl | assumption) rfl rfl rfl ?_)
      refine xo_nil ?_
      refine xq_seq ?_
      refine xc_seq ?_
      refine xc_region ?_
      refine xo_rd (rd_assign rfl) rfl ?_
      refine xo_nil ?_
      refine xq_seq ?_
      refine xc_ret ?_
      rotate_left
    · have hs0 : sf = false := by simpa using hz2
      rw [hs0, Bool.or_false]
      exact xq_ret1 (.inl rfl) Try.results14 rfl ⟨rfl, rfl⟩
    · have hs0 : sf = true := by simpa using hz2
      rw [hs0, Bool.or_true]
      exact xq_ret1 (.inl rfl) Try.results14 rfl ⟨rfl, rfl⟩
  · skip
    focus
      refine xc_seq ?_
      refine xc_region ?_
      refine xo_rd (rd_assign rfl) rfl ?_
      refine xo_nil ?_
      refine xq_seq ?_
      refine xc_seq ?_
      refine xc_seq ?_
      refine xc_region ?_
      refine xo_rd (rd_move rfl) rfl ?_
      refine xo_rd (rd_eqnil rfl) rfl ?_
      refine xo_rd (rd_move rfl) rfl ?_
      refine xo_grd rfl rfl (rd_move rfl) rfl ?_
      refine xo_grd rfl rfl (rd_nilCheck rfl) rfl ?_
      refine xo_grd rfl rfl (rd_fieldAddr rfl) rfl ?_
      refine xo_grd rfl rfl (rd_load1 rfl (Cl.o0 rfl)) rfl ?_
      refine xo_grd rfl rfl (rd_len rfl) rfl ?_
      refine xo_grd rfl rfl (rd_eql rfl rfl) rfl ?_
      refine xo_rd (rd_pickf rfl rfl) rfl ?_
      refine xo_rd (rd_move rfl) rfl ?_
      refine xo_dec 13 rfl (fun hz1 => ?_) (fun hz1 => (by exfalso; omega))
      refine xo_gskip rfl rfl rfl rfl ?_
      refine xo_gskip rfl rfl rfl rfl ?_
      refine xo_gskip rfl rfl rfl rfl ?_
      refine xo_rd (rd_pickt rfl rfl) rfl ?_
      refine xo_nil ?_
      refine xq_seq ?_
      refine xc_condt rfl ?_
      refine xc_seq ?_
      refine xc_region ?_
      refine xo_rd (rd_assign rfl) rfl ?_
      refine xo_nil ?_
      refine xq_seq ?_
      refine xc_ret ?_
      refine xq_then_ret ?_
    have he : es = [] := List.eq_nil_of_length_eq_zero (by omega)
    have hs0 : sf = false := by rw [← hsf, he]; rfl
    rw [hs0, Bool.or_false]
    exact xq_ret1 (.inl rfl) Try.results14 rfl ⟨rfl, rfl⟩
theorem xf_BeginN {W : World} {L : List Blk} : XF Try.prog W 14 #[.pointer none] L (fun v L' => v = .bool false ∧ L' = L) := by
  refine xf_enter (args := [_]) Try.func14 rfl Try.ntmps14 rfl ?_
  focus
    refine xc_seq ?_
    refine xc_region ?_
    refine xo_rd (rd_assign rfl) rfl ?_
    refine xo_nil ?_
    refine xq_seq ?_
    refine xc_seq ?_
    refine xc_seq ?_
    refine xc_region ?_
    refine xo_rd (rd_move rfl) rfl ?_
    refine xo_rd (rd_eqnil rfl) rfl ?_
    refine xo_rd (rd_move rfl) rfl ?_
    refine xo_gskip rfl rfl rfl rfl ?_
    refine xo_gskip rfl rfl rfl rfl ?_
    refine xo_gskip rfl rfl rfl rfl ?_
    refine xo_gskip rfl rfl rfl rfl ?_
    refine xo_gskip rfl rfl rfl rfl ?_
    refine xo_gskip rfl rfl rfl rfl ?_
    refine xo_rd (rd_pickt rfl rfl) rfl ?_
    refine xo_rd (rd_move rfl) rfl ?_
    refine xo_gskip rfl rfl rfl rfl ?_
    refine xo_gskip rfl rfl rfl rfl ?_
    refine xo_gskip rfl rfl rfl rfl ?_
    refine xo_rd (rd_pickt rfl rfl) rfl ?_
    refine xo_nil ?_
    refine xq_seq ?_
    refine xc_condt rfl ?_
    refine xc_seq ?_
    refine xc_region ?_
    refine xo_rd (rd_assign rfl) rfl ?_
    refine xo_nil ?_
    refine xq_seq ?_
    refine xc_ret ?_
    refine xq_then_ret ?_
  exact xq_ret1 (.inl rfl) Try.results14 rfl ⟨rfl, rfl⟩
theorem xf_BegunN {W : World} {L : List Blk} : XF Try.prog W 24 #[.pointer none] L (fun v L' => v = .bool false ∧ L' = L) := by
  refine xf_enter (args := [_]) Try.func24 rfl Try.ntmps24 rfl ?_
  focus
    refine xc_seq ?_
    refine xc_region ?_
    refine xo_rd (rd_assign rfl) rfl ?_
    refine xo_nil ?_
    refine xq_seq ?_
    refine xc_seq ?_
    refine xc_region ?_
    refine xo_rd (rd_move rfl) rfl ?_
    refine xo_rd (rd_nenil rfl) rfl ?_
    refine xo_rd (rd_move rfl) rfl ?_
    refine xo_gskip rfl rfl rfl rfl ?_
    refine xo_gskip rfl rfl rfl rfl ?_
    refine xo_gskip rfl rfl rfl rfl ?_
    refine xo_gskip rfl rfl rfl rfl ?_
    refine xo_rd (rd_pickf rfl rfl) rfl ?_
    refine xo_rd (rd_assign rfl) rfl ?_
    refine xo_nil ?_
    refine xq_seq ?_
    refine xc_ret ?_
  exact xq_ret1 (.inl rfl) Try.results24 rfl ⟨rfl, rfl⟩
theorem xf_FramesN {W : World} {L : List Blk} : XF Try.prog W 25 #[.pointer none] L (fun v L' => v = .int .i64 0 ∧ L' = L) := by
  refine xf_enter (args := [_]) Try.func25 rfl Try.ntmps25 rfl ?_
  focus
    refine xc_seq ?_
    refine xc_region ?_
    refine xo_rd (rd_assign rfl) rfl ?_
    refine xo_nil ?_
    refine xq_seq ?_
    refine xc_seq ?_
    refine xc_seq ?_
    refine xc_region ?_
    refine xo_rd (rd_move rfl) rfl ?_
    refine xo_rd (rd_eqnil rfl) rfl ?_
    refine xo_nil ?_
    refine xq_seq ?_
    refine xc_condt rfl ?_
    refine xc_seq ?_
    refine xc_region ?_
    refine xo_rd (rd_assign rfl) rfl ?_
    refine xo_nil ?_
    refine xq_seq ?_
    refine xc_ret ?_
    refine xq_then_ret ?_
  exact xq_ret1 (.inl rfl) Try.results25 rfl ⟨rfl, rfl⟩
theorem xf_HasN {W : World} {L : List Blk} (g : Int) (k : Bool) : XF Try.prog W 27 #[.pointer none, .int .u64 g, .bool k] L (fun v L' => v = .bool false ∧ L' = L) := by
  refine xf_enter (args := [_, _, _]) Try.func27 rfl Try.ntmps27 rfl ?_
  focus
    refine xc_seq ?_
    refine xc_region ?_
    refine xo_rd (rd_assign rfl) rfl ?_
    refine xo_nil ?_
    refine xq_seq ?_
    refine xc_seq ?_
    refine xc_seq ?_
    refine xc_region ?_
    refine xo_rd (rd_move rfl) rfl ?_
    refine xo_rd (rd_eqnil rfl) rfl ?_
    refine xo_nil ?_
    refine xq_seq ?_
    refine xc_condt rfl ?_
    refine xc_seq ?_
    refine xc_region ?_
    refine xo_rd (rd_assign rfl) rfl ?_
    refine xo_nil ?_
    refine xq_seq ?_
    refine xc_ret ?_
    refine xq_then_ret ?_
  exact xq_ret1 (.inl rfl) Try.results27 rfl ⟨rfl, rfl⟩
theorem xf_AllN {W : World} {L : List Blk} : XF Try.prog W 29 #[.pointer none] L (fun v L' => v = .slice none 0 0 ∧ L' = L) := by
  refine xf_enter (args := [_]) Try.func29 rfl Try.ntmps29 rfl ?_
  focus
    refine xc_seq ?_
    refine xc_region ?_
    refine xo_rd (rd_assign rfl) rfl ?_
    refine xo_nil ?_
    refine xq_seq ?_
    refine xc_seq ?_
    refine xc_seq ?_
    refine xc_region ?_
    refine xo_rd (rd_move rfl) rfl ?_
    refine xo_rd (rd_eqnil rfl) rfl ?_
    refine xo_nil ?_
    refine xq_seq ?_
    refine xc_condt rfl ?_
    refine xc_seq ?_
    refine xc_region ?_
    refine xo_rd (rd_assign rfl) rfl ?_
    refine xo_nil ?_
    refine xq_seq ?_
    refine xc_ret ?_
    refine xq_then_ret ?_
  exact xq_ret1 (.inl rfl) Try.results29 rfl ⟨rfl, rfl⟩
end Go.Proofs.Ytpheiklhjelkcaa.X
