/-
  Chapter 23: the keys in a row, sorted: walks of my own.
-/
import Derived.Test.YtoolgphkfnkajaaA4
namespace Go.Proofs.Ytoolgphkfnkajaa.X
open Go Go.RowKit
set_option linter.unusedVariables false
set_option linter.unusedSimpArgs false
set_option maxHeartbeats 1600000 in
theorem xf_appendSeq {W : World} {L : List Blk} (rb mb : Nat) (mo : Obj) (l : List Sr) (hm : MpIs .u32 mo (srV l) l.length) (hnd : (l.map Sr.id).Nodup) (hl : l.length ≤ 12) (hbx : (rb, Obj.cells #[.map (some mb)] 46 (0, 0)) ∈ L) (hmb : (mb, mo) ∈ L) :
    XF Try.prog W 45 #[.slice none 0 0, .func (.func 41) #[] #[.pointer (some ⟨rb, 0, none⟩)]] L (fun v L' => ∃ xs p k lo, v = .slice p l.length k ∧ SlO 1 30 (.slice p l.length k) l.length (ints .u32 xs) lo ∧ xs.Perm (l.map Sr.id) ∧ L' = lo ++ L) := by
  refine xf_enterM (args := [_, _]) Try.func45 rfl Try.ntmps45 rfl ?_
  refine xci_seq (xci_wide ?_)
  focus
    refine xc_region ?_
    refine xo_ef rfl (ef_box rfl fun r2 => ?_)
    refine xo_rd (rd_assign rfl) rfl ?_
    refine xo_nil ?_
  refine xci_tail0 (xci_seq (xci_seq (xci_wide ?_)))
  focus
    refine xc_region ?_
    refine xo_rd (rd_move rfl) rfl ?_
    refine xo_nil ?_
  refine xci_tail0 (xci_block (xci_range (it_keys L rb mb mo l hm hnd hl) rfl (Cf.h (P := Try.prog) (f := 41)) (by decide)
    (fun pre L' => pre.length ≤ 12 ∧ ∃ v lo, SlO 1 30 v pre.length (ints .u32 pre) lo ∧ L' = (r2, .cells #[v] 34 (0, 0)) :: (lo ++ L))
    (fun _ _ _ => False) ?_ ⟨Nat.zero_le _, _, [], SlO.nil, rfl⟩
    (ι := Unit) (fun pre x L' _ => L') (fun _ x _ _ => [(2, .pointer (some ⟨r2, 0, none⟩)), (5, .int .u32 x)]) ?_ ?_ ?_ (fun _ _ _ _ _ h => h.elim)))
  · rintro pre L' ⟨_, v, lo, _, rfl⟩ z hz
    refine List.mem_cons_of_mem _ (List.mem_append_right _ ?_)
    rcases List.mem_cons.1 hz with rfl | hz
    · exact hbx
    rcases List.mem_cons.1 hz with rfl | hz
    · exact hmb
    · exact hz
  · intro l pre x A L' hI hlen
    have hWd : Wd (Fence.wide.inRound l) := .inr ⟨l, rfl⟩
    refine xci_region ?_
    refine xi_rd hWd (fun _ h => by cases h) (rd_assign rfl) rfl ?_
    refine xi_nil (xq_d0 (.mk fun a w ha hw => ⟨(), ha.keep (by repeat (first | exact keep_nil | refine keep_cons rfl ?_)), hw⟩))
  · rintro l' pre x A L' ⟨⟩ ⟨hle, v, lo, hO, rfl⟩ hlen
    have hWd : Wd (Fence.wide.inRound l') := .inr ⟨l', rfl⟩
    refine xci_block (xci_region ?_)
    refine xi_perm (L' := (r2, .cells #[v] 34 (0, 0)) :: (lo ++ (A ++ L))) (by classical exact List.perm_iff_count.2 fun a => by simp only [List.append_eq, List.count_append, List.count_cons, List.count_nil, List.cons_append, List.nil_append, List.flatMap_append, List.flatMap_cons, List.flatMap_nil, List.append_nil]; omega) ?_
    refine xi_rd hWd (fun _ h => by cases h) (rd_load1 rfl (Cl.o0 rfl)) rfl ?_
    refine xi_rd hWd (fun _ h => by cases h) (rd_move rfl) rfl ?_
    refine xi_ef hWd (fun _ h => by cases h) rfl (ef_buildL (T := 34) (len := 1) (s := 1) (cells := (ints .u32 [x]).toArray) rfl (by decide) (by decide) (by kernel_rfl) fun r10 => ?_)
    refine xi_ef hWd (fun _ h => by cases h) rfl (ef_append [_, _] (A ++ L) lo (news := ints .u32 [x]) rfl rfl hO rfl (Rs.fresh (List.Mem.head _)) rfl rfl (by decide) (by omega) (by omega) fun v3 lo3 hO3 => ?_)
    refine xi_ef hWd (fun _ h => by cases h) rfl (ef_store1 [_] _ rfl rfl hO3.one rfl rfl rfl ?_)
    refine xi_nil (xq_d0 (xq_block (.mk fun a w ha hw => ⟨(r2, .cells #[v3] 34 (0, 0)) :: (lo3 ++ L), ⟨by rw [List.length_append]; exact hlen, v3, lo3, ?_, rfl⟩, ?_⟩)))
    · rw [ints_app, List.length_append]; exact hO3
    · replace hw : Hp W w ((r10, .cells (ints .u32 [x]).toArray 30 (0, 0)) :: (r2, .cells #[v3] 34 (0, 0)) :: (lo3 ++ (A ++ L))) := hw
      refine (hw.perm (L' := (r10, .cells (ints .u32 [x]).toArray 30 (0, 0)) :: (A ++ ((r2, .cells #[v3] 34 (0, 0)) :: (lo3 ++ L)))) ?_).sub (List.sublist_cons_self _ _)
      exact (by classical exact List.perm_iff_count.2 fun a => by simp only [List.append_eq, List.count_append, List.count_cons, List.count_nil, List.cons_append, List.nil_append, List.flatMap_append, List.flatMap_cons, List.flatMap_nil, List.append_nil]; omega)
  · rintro D xs L' hS ⟨hle, v, lo, hO, rfl⟩
    have hWd : Wd Fence.wide := .inl rfl
    have hxl : xs.length = l.length := by rw [hS.length_eq, List.length_map]
    rw [hxl] at hO
    obtain ⟨s, k, rfl, hO, _⟩ := hO.opn
    refine xqd_block (xci_tail (xci_seq (xci_region ?_)))
    refine xi_rd hWd (fun _ h => by cases h) (rd_load1 rfl (Cl.o1 rfl)) rfl ?_
    refine xi_rd hWd (fun _ h => by cases h) (rd_assign rfl) rfl ?_
    refine xi_nil (xci_tail (xci_ret (xqm_ret (.inl rfl) (xq_sub (List.sublist_cons_self _ _) (xq_ret1 (.inl rfl) Try.results45 rfl ⟨xs, s, k, lo, rfl, hO, hS, rfl⟩)))))
theorem xf_collect {W : World} {L : List Blk} (rb mb : Nat) (mo : Obj) (l : List Sr) (hm : MpIs .u32 mo (srV l) l.length) (hnd : (l.map Sr.id).Nodup) (hl : l.length ≤ 12) (hbx : (rb, Obj.cells #[.map (some mb)] 46 (0, 0)) ∈ L) (hmb : (mb, mo) ∈ L) :
    XF Try.prog W 39 #[.func (.func 41) #[] #[.pointer (some ⟨rb, 0, none⟩)]] L (fun v L' => ∃ xs p k lo, v = .slice p l.length k ∧ SlO 1 30 (.slice p l.length k) l.length (ints .u32 xs) lo ∧ xs.Perm (l.map Sr.id) ∧ L' = lo ++ L) := by
  refine xf_enter (args := [_]) Try.func39 rfl Try.ntmps39 rfl ?_
  focus
    refine xc_seq ?_
    refine xc_region ?_
    refine xo_rd (rd_assign rfl) rfl ?_
    refine xo_nil ?_
    refine xq_seq ?_
    refine xc_seq ?_
    refine xc_region ?_
    refine xo_rd (rd_move rfl) rfl ?_
    refine xo_ef rfl (ef_call rfl (XF.mono (xf_appendSeq rb mb mo l hm hnd hl hbx hmb) ?_))
    rintro v L' ⟨xs, p, k, lo, rfl, hO, hp, rfl⟩
    refine xo_rd (rd_assign rfl) rfl ?_
    refine xo_nil ?_
    refine xq_seq ?_
    refine xc_ret ?_
  exact xq_ret1 (.inl rfl) Try.results39 rfl ⟨xs, p, k, lo, rfl, hO, hp, rfl⟩
/-- slices.Sorted of the keys: the ids, rising. -/
theorem xf_sorted {W : World} {L : List Blk} (rb mb : Nat) (mo : Obj) (l : List Sr) (hm : MpIs .u32 mo (srV l) l.length) (hso : (l.map Sr.id).Pairwise (· < ·)) (hl : l.length ≤ 12) (hbx : (rb, Obj.cells #[.map (some mb)] 46 (0, 0)) ∈ L) (hmb : (mb, mo) ∈ L) :
    XF Try.prog W 26 #[.func (.func 41) #[] #[.pointer (some ⟨rb, 0, none⟩)]] L (fun v L' => ∃ p k lo, v = .slice p l.length k ∧ SlQ 1 30 (.slice p l.length k) l.length (ints .u32 (l.map Sr.id)) lo ∧ L' = lo ++ L) := by
  have hnd : (l.map Sr.id).Nodup := hso.imp fun h => by omega
  refine xf_enter (args := [_]) Try.func26 rfl Try.ntmps26 rfl ?_
  focus
    refine xc_seq ?_
    refine xc_region ?_
    refine xo_rd (rd_assign rfl) rfl ?_
    refine xo_nil ?_
    refine xq_seq ?_
    refine xc_seq ?_
    refine xc_region ?_
    refine xo_rd (rd_move rfl) rfl ?_
    refine xo_ef rfl (ef_call rfl (XF.mono (xf_collect rb mb mo l hm hnd hl hbx hmb) ?_))
    rintro v L' ⟨xs, p, k, lo, rfl, hO, hp, rfl⟩
    refine xo_rd (rd_assign rfl) rfl ?_
    refine xo_nil ?_
    refine xq_seq ?_
  have hxl : xs.length = l.length := by rw [hp.length_eq, List.length_map]
  focus
    refine xc_seq ?_
    refine xc_region ?_
    refine xo_rd (rd_move rfl) rfl ?_
    refine xo_ef rfl (ef_call rfl (XF.mono (xf_sort p l.length k xs lo hxl hO.q hl) ?_))
    rintro v L' ⟨rfl, ys, l2, hO2, hpm, hsr, rfl⟩
    refine xo_nil ?_
    refine xq_seq ?_
    refine xc_seq ?_
    refine xc_region ?_
    refine xo_rd (rd_move rfl) rfl ?_
    refine xo_rd (rd_assign rfl) rfl ?_
    refine xo_nil ?_
    refine xq_seq ?_
    refine xc_ret ?_
  have hyl : ys.length = l.length := by rw [hpm.length_eq, hxl]
  rw [← hyl] at hsr
  have hys : ys = l.map Sr.id := srt_eq (hpm.trans hp) hsr hso
  subst hys
  exact xq_ret1 (.inl rfl) Try.results26 rfl ⟨p, k, l2, rfl, hO2, rfl⟩
theorem xf_keys {W : World} {L : List Blk} (mb : Nat) : XF Try.prog W 27 #[.map (some mb)] L (fun v L' => ∃ rb, v = .func (.func 41) #[] #[.pointer (some ⟨rb, 0, none⟩)] ∧ L' = (rb, Obj.cells #[.map (some mb)] 46 (0, 0)) :: L) := by
  refine xf_enter (args := [_]) Try.func27 rfl Try.ntmps27 rfl ?_
  focus
    refine xc_seq ?_
    refine xc_region ?_
    refine xo_ef rfl (ef_box rfl fun r1 => ?_)
    refine xo_rd (rd_assign rfl) rfl ?_
    refine xo_nil ?_
    refine xq_seq ?_
    refine xc_seq ?_
    refine xc_region ?_
    refine xo_rd (rd_makeFunc rfl rfl) rfl ?_
    refine xo_rd (rd_assign rfl) rfl ?_
    refine xo_nil ?_
    refine xq_seq ?_
    refine xc_ret ?_
  exact xq_ret1 (.inl rfl) Try.results27 rfl ⟨r1, rfl, rfl⟩
end Go.Proofs.Ytoolgphkfnkajaa.X
