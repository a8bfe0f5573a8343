/-
  The reference puts chunks; what comes in is copied as the reference has it: walks of my own.
-/
import Derived.Test.YtohlaabclifbfaaE2
namespace Go.Proofs.Ytohlaabclifbfaa.X
open Go Go.RowKit
set_option linter.unusedVariables false
set_option linter.unusedSimpArgs false
set_option maxHeartbeats 8000000 in
theorem xf_rputChunks {W : World} {L : List Blk} (p : Option Addr) (n c : Nat) (xs : List Ck) (hx : xs.length = n) (hr : Rs W L p (xs.flatMap Ck.enc)) (hg : ∀ x, x ∈ xs → U4 x.ss) (hn : n ≤ 1000000) :
    XF Try.prog W 32 #[.slice p n c] L (PuM L (putCh xs)) := by
  refine xf_enter (args := [_]) Try.func32 rfl Try.ntmps32 rfl ?_
  focus
    refine xc_seq ?_
    refine xc_region ?_
    refine xo_ef rfl (ef_alloc fun r2 => ?_)
    refine xo_rd (rd_assign rfl) rfl ?_
    refine xo_nil ?_
    refine xq_seq ?_
    refine xc_seq ?_
    refine xc_region ?_
    refine xo_rd (rd_assign rfl) rfl ?_
    refine xo_nil ?_
    refine xq_seq ?_
    refine xc_seq ?_
    refine xc_seq ?_
    refine xc_region ?_
    refine xo_rd (rd_assign rfl) rfl ?_
    refine xo_nil ?_
    refine xq_seq ?_
    refine xc_block ?_
  refine xc_loopI (ι := LgS) (fun z => z.i ≤ n ∧ (∀ j (h : j < xs.length), j < z.i → xs[j].nm.size ≤ 255) ∧ ((xs.take z.i).foldl chA []).length ≤ 300 * z.i ∧ SlO 1 5 (.slice z.s ((xs.take z.i).foldl chA []).length z.k) ((xs.take z.i).foldl chA []).length (ints .u8 ((xs.take z.i).foldl chA [])) z.l) (fun z => n - z.i) (fun z => (r2, .cells #[.int .u8 0, .int .u8 0, .slice none 0 0, .int .u8 0] 46 (0, 0)) :: (z.l ++ L)) (fun z => [(0, .slice p n c), (2, .pointer (some ⟨r2, 0, none⟩)), (3, .int .i64 0), (4, .slice z.s ((xs.take z.i).foldl chA []).length z.k), (5, .int .i64 z.i)]) ⟨0, none, 0, []⟩ ⟨Nat.zero_le _, (fun j h hj => absurd hj (Nat.not_lt_zero _)), Nat.zero_le _, SlO.nil⟩ rfl (by repeat (first | exact keep_nil | refine keep_cons rfl ?_)) ?_
  rintro ⟨i, s, k, l⟩ ⟨hi, hok, hle, hO⟩
  dsimp only at hi hok hle hO ⊢
  by_cases hin : i < n
  · obtain ⟨b, o, hp, hc⟩ := hr.rows Ck.len (by decide) (by omega)
    subst hp
    have hci := hc i (by omega)
    have hgx := hg xs[i] (List.getElem_mem _)
    have e1 : (xs.take (i + 1)).foldl chA [] = chA ((xs.take i).foldl chA []) xs[i] := by rw [List.take_add_one, List.getElem?_eq_getElem (by omega), List.foldl_append]; rfl
    have hbad : 255 < xs[i].nm.size → putCh xs = (.zero, 2) := fun h => by
      unfold putCh
      rw [if_pos]
      exact List.any_eq_true.2 ⟨xs[i], List.getElem_mem _, decide_eq_true h⟩
    have hok' : xs[i].nm.size ≤ 255 → ∀ j (h : j < xs.length), j < i + 1 → xs[j].nm.size ≤ 255 := fun h j hj hji => by
      by_cases hji2 : j < i
      · exact hok j hj hji2
      · obtain rfl : j = i := by omega
        exact h
    have hcl := chA_len ((xs.take i).foldl chA []) xs[i]
    generalize (xs.take i).foldl chA [] = acc at *
    generalize xs[i] = x at *
    obtain ⟨ss, nm⟩ := x
    have hc0 : ∀ L', (∀ z, z ∈ L → z ∈ L') → Cl W L' b (o + (i : Int).toNat * 2 + 0) (.int .u32 ss) := fun L' h => (hci 0 _ rfl).mono h
    have hc1 : ∀ L', (∀ z, z ∈ L → z ∈ L') → Cl W L' b (o + (i : Int).toNat * 2 + 1) (.string nm) := fun L' h => (hci 1 _ rfl).mono h
    dsimp only at hgx hbad hok' hcl
    by_cases hf : 255 < nm.size
    · rw [hbad hf]
      focus
        refine xc_seq ?_
        refine xc_seq ?_
        refine xc_region ?_
        refine xo_rd (rd_move rfl) rfl ?_
        refine xo_rd (rd_move rfl) rfl ?_
        refine xo_rd (rd_len rfl) rfl ?_
        refine xo_rd (rd_lss rfl rfl) rfl ?_
        refine xo_nil ?_
        refine xq_seq ?_
        refine xc_dec rfl (fun hq1 => ?_) (fun hq1 => (by exfalso; omega))
        refine xc_skip ?_
        refine xq_seq ?_
        refine xc_seq ?_
        refine xc_block ?_
        refine xc_seq ?_
        refine xc_seq ?_
        refine xc_region ?_
        refine xo_rd (rd_move rfl) rfl ?_
        refine xo_rd (rd_move rfl) rfl ?_
        refine xo_rd (rd_indexAddr rfl rfl (by omega) (by omega)) rfl ?_
        refine xo_rd (rd_fieldAddr rfl) rfl ?_
        refine xo_rd (rd_load1 rfl (hc1 _ (by intro z hz; simp [hz]))) rfl ?_
        refine xo_rd (rd_lenStr rfl) rfl ?_
        refine xo_rd (rd_gtr rfl rfl) rfl ?_
        refine xo_nil ?_
        refine xq_seq ?_
        refine xc_dec rfl (fun hq2 => ?_) (fun hq2 => (by exfalso; omega))
        refine xc_seq ?_
        refine xc_region ?_
        refine xo_rd (rd_build rfl rfl rfl) rfl ?_
        refine xo_ef rfl (ef_storeB [] _ rfl rfl (by first | rfl | assumption) rfl rfl rfl ?_)
        refine xo_rd (rd_assign rfl) rfl ?_
        refine xo_nil ?_
        refine xq_seq ?_
        refine xc_ret ?_
        refine xq_then_ret ?_
        refine xq_block_ret ?_
        refine xq_then_ret ?_
        refine xq_then_ret ?_
        refine xq_block_ret ?_
        refine xq_then_ret ?_
      all_goals exact xq_retB2 (.inl rfl) Try.results32 rfl rfl Kn.o0 rfl ((List.sublist_append_right l L).trans (List.sublist_cons_self _ _)) (PuM.err 2)
    · have hcl := hcl (by omega)
      have hl4 : (acc ++ [ss].flatMap be4).length = acc.length + 4 := by rw [List.length_append, flat4_len]; rfl
      focus
        refine xc_seq ?_
        refine xc_seq ?_
        refine xc_region ?_
        refine xo_rd (rd_move rfl) rfl ?_
        refine xo_rd (rd_move rfl) rfl ?_
        refine xo_rd (rd_len rfl) rfl ?_
        refine xo_rd (rd_lss rfl rfl) rfl ?_
        refine xo_nil ?_
        refine xq_seq ?_
        refine xc_dec rfl (fun hq1 => ?_) (fun hq1 => (by exfalso; omega))
        refine xc_skip ?_
        refine xq_seq ?_
        refine xc_seq ?_
        refine xc_block ?_
        refine xc_seq ?_
        refine xc_seq ?_
        refine xc_region ?_
        refine xo_rd (rd_move rfl) rfl ?_
        refine xo_rd (rd_move rfl) rfl ?_
        refine xo_rd (rd_indexAddr rfl rfl (by omega) (by omega)) rfl ?_
        refine xo_rd (rd_fieldAddr rfl) rfl ?_
        refine xo_rd (rd_load1 rfl (hc1 _ (by intro z hz; simp [hz]))) rfl ?_
        refine xo_rd (rd_lenStr rfl) rfl ?_
        refine xo_rd (rd_gtr rfl rfl) rfl ?_
        refine xo_nil ?_
        refine xq_seq ?_
        refine xc_dec rfl (fun hq2 => (by exfalso; omega)) (fun hq2 => ?_)
        refine xc_skip ?_
        refine xq_seq ?_
        refine xc_seq ?_
        refine xc_region ?_
        refine xo_rd (rd_move rfl) rfl ?_
        refine xo_rd (rd_move rfl) rfl ?_
        refine xo_rd (rd_move rfl) rfl ?_
        refine xo_rd (rd_indexAddr rfl rfl (by omega) (by omega)) rfl ?_
        refine xo_rd (rd_fieldAddr rfl) rfl ?_
        refine xo_rd (rd_load1 rfl (hc0 _ (by intro z hz; simp [hz]))) rfl ?_
        refine xo_ef rfl (ef_call rfl (XF.mono (xf_rlg ss hgx) ?_))
        rintro v L' ⟨s2, k2, l2, rfl, hO2, rfl⟩
        refine xo_perm (perm_p1 l2 l _) ?_
        refine xo_ef rfl (ef_appendS [_] _ l (news := ints .u8 (be4 ss)) rfl rfl hO rfl (hO2.rs (by intro z hz; simp [hz])) rfl rfl (by decide) (by omega) (by omega) fun s3 k3 l3 hO3 hk3 => ?_)
        refine xo_rd (rd_assign rfl) rfl ?_
        refine xo_nil ?_
        refine xq_seq ?_
      have hO4 : SlO 1 5 (.slice s3 (acc.length + 4) k3) (acc.length + 4) (ints .u8 (acc ++ [ss].flatMap be4)) l3 := by rw [ints_app, List.flatMap_singleton]; exact hO3
      clear hO3
      refine xc_sub (L' := (r2, .cells #[.int .u8 0, .int .u8 0, .slice none 0 0, .int .u8 0] 46 (0, 0)) :: (l3 ++ L)) (.cons_cons _ (List.Sublist.append_left (List.sublist_append_right _ L) l3)) ?_
      refine xc_join (ι := ChS) (fun z => z.ys = acc ++ [ss].flatMap be4 ++ nameL nm ∧ SlO 1 5 (.slice z.s z.ys.length z.k) z.ys.length (ints .u8 z.ys) z.l) (fun z => (r2, .cells #[.int .u8 0, .int .u8 0, .slice none 0 0, .int .u8 0] 46 (0, 0)) :: (z.l ++ L)) (fun z => [(0, .slice (some ⟨b, o, none⟩) n c), (2, .pointer (some ⟨r2, 0, none⟩)), (3, .int .i64 0), (4, .slice z.s z.ys.length z.k), (5, .int .i64 i)]) ?_ ?_
      · skip
        by_cases h0 : nm.size = 0
        · obtain rfl := nm_size0.1 h0
          focus
            refine xc_seq ?_
            refine xc_region ?_
            refine xo_rd (rd_move rfl) rfl ?_
            refine xo_rd (rd_move rfl) rfl ?_
            refine xo_rd (rd_indexAddr rfl rfl (by omega) (by omega)) rfl ?_
            refine xo_rd (rd_fieldAddr rfl) rfl ?_
            refine xo_rd (rd_load1 rfl (hc1 _ (by intro z hz; simp [hz]))) rfl ?_
            refine xo_rd (rd_cast (v' := .bool false) (rd_nes rfl rfl) (congrArg Value.bool (show (!decide ((⟨#[]⟩ : ByteArray) = ⟨#[]⟩)) = false from by rw [decide_eq_true rfl]; rfl))) rfl ?_
            refine xo_nil ?_
            refine xq_seq ?_
            refine xc_condf rfl ?_
            refine xc_skip ?_
          refine xq_joined (⟨acc ++ [ss].flatMap be4, s3, k3, l3⟩ : ChS) ⟨?_, by dsimp only; rw [hl4]; exact hO4⟩ rfl ?_
          · dsimp only; unfold nameL; rw [if_pos h0, List.append_nil]
          · dsimp only; rw [hl4]; exact (by repeat (first | exact keep_nil | refine keep_cons rfl ?_))
        · have hnm : ¬ nm = ⟨#[]⟩ := fun h => h0 (nm_size0.2 h)
          have hl5 : (acc ++ [ss].flatMap be4 ++ nameL nm).length = acc.length + 4 + 2 + nm.size := by
            unfold nameL
            rw [if_neg h0, List.length_append, hl4, List.length_append, sbs_len]
            simp; omega
          have hin5 : ints .u8 (acc ++ [ss].flatMap be4 ++ nameL nm) = ints .u8 (acc ++ [ss].flatMap be4) ++ ints .u8 [1, (nm.size : Int)] ++ ints .u8 (sbs nm) := by
            unfold nameL
            rw [if_neg h0, ints_app, ints_app _ [1, (nm.size : Int)], List.append_assoc]
          focus
            refine xc_seq ?_
            refine xc_region ?_
            refine xo_rd (rd_move rfl) rfl ?_
            refine xo_rd (rd_move rfl) rfl ?_
            refine xo_rd (rd_indexAddr rfl rfl (by omega) (by omega)) rfl ?_
            refine xo_rd (rd_fieldAddr rfl) rfl ?_
            refine xo_rd (rd_load1 rfl (hc1 _ (by intro z hz; simp [hz]))) rfl ?_
            refine xo_rd (rd_cast (v' := .bool true) (rd_nes rfl rfl) (congrArg Value.bool (show (!decide (nm = ⟨#[]⟩)) = true from by rw [decide_eq_false hnm]; rfl))) rfl ?_
            refine xo_nil ?_
            refine xq_seq ?_
            refine xc_condt rfl ?_
            refine xc_seq ?_
            refine xc_region ?_
            refine xo_rd (rd_move rfl) rfl ?_
            refine xo_rd (rd_move rfl) rfl ?_
            refine xo_rd (rd_move rfl) rfl ?_
            refine xo_rd (rd_indexAddr rfl rfl (by omega) (by omega)) rfl ?_
            refine xo_rd (rd_fieldAddr rfl) rfl ?_
            refine xo_rd (rd_load1 rfl (hc1 _ (by intro z hz; simp [hz]))) rfl ?_
            refine xo_rd (rd_lenStr rfl) rfl ?_
            refine xo_rd (rd_convn rfl (by omega) (by omega)) rfl ?_
            refine xo_ef rfl (ef_buildL (T := 22) (len := 2) (s := 1) (cells := (ints .u8 [1, (nm.size : Int)]).toArray) rfl (by decide) (by decide) (by kernel_rfl) fun r32 => ?_)
            refine xo_ef rfl (ef_appendS [_, _] _ l3 (news := ints .u8 [1, (nm.size : Int)]) rfl rfl hO4 rfl (Rs.fresh (List.Mem.head _)) rfl rfl (by decide) (by omega) (by omega) fun s4 k4 l4 hO5 hk4 => ?_)
            refine xo_rd (rd_assign rfl) rfl ?_
            refine xo_nil ?_
            refine xq_seq ?_
            refine xc_region ?_
            refine xo_rd (rd_move rfl) rfl ?_
            refine xo_rd (rd_move rfl) rfl ?_
            refine xo_rd (rd_move rfl) rfl ?_
            refine xo_rd (rd_indexAddr rfl rfl (by omega) (by omega)) rfl ?_
            refine xo_rd (rd_fieldAddr rfl) rfl ?_
            refine xo_rd (rd_load1 rfl (hc1 _ (by intro z hz; simp [hz]))) rfl ?_
            refine xo_ef rfl (ef_appendT [_, _] _ l4 rfl rfl hO5 rfl rfl (by omega) (by omega) fun s5 k5 l5 hO6 hk5 => ?_)
            refine xo_rd (rd_assign rfl) rfl ?_
            refine xo_nil ?_
          refine xq_tail (xq_joined (⟨acc ++ [ss].flatMap be4 ++ nameL nm, s5, k5, l5⟩ : ChS) ⟨rfl, by dsimp only; rw [hl5, hin5]; exact hO6⟩ rfl ?_)
          dsimp only; rw [hl5]; exact (by repeat (first | exact keep_nil | refine keep_cons rfl ?_))
      · rintro ⟨ys, s5, k5, l5⟩ ⟨hys, hO5⟩
        dsimp only at hys hO5 ⊢
        have hyl : ys.length ≤ acc.length + 270 := by
          have := nameL_len nm (by omega)
          rw [hys]
          simp only [List.length_append, flat4_len, List.length_singleton]
          omega
        have hcA : chA acc ⟨ss, nm⟩ = fil (ys ++ [0]) := by rw [hys]; rfl
        focus
          refine xc_region ?_
          refine xo_rd (rd_move rfl) rfl ?_
          refine xo_ef rfl (ef_slice1 rfl rfl rfl fun r40 => ?_)
          refine xo_ef rfl (ef_appendS [_, _] L l5 (news := [.int .u8 0]) rfl rfl hO5 rfl (Rs.fresh (List.Mem.head _)) rfl rfl (by decide) (by omega) (by omega) fun s6 k6 l6 hO6 hk6 => ?_)
          refine xo_ef rfl (ef_call rfl (XF.mono (XF.seg [_, _] l6 L (xf_rfilled _ (ys.length + 1) (ys ++ [0]) l6 (by rw [ints_snoc]; exact hO6) (by omega))) ?_))
          rintro v L' ⟨s7, k7, l7, rfl, hO7, rfl⟩
          refine xo_seg [_, _] l7 L ?_
          refine xo_rd (rd_assign rfl) rfl ?_
          refine xo_nil ?_
          refine xq_block ?_
          refine xq_seq ?_
          refine xc_region ?_
          refine xo_rd (rd_move rfl) rfl ?_
          refine xo_rd (rd_addn rfl rfl (by omega) (by omega)) rfl ?_
          refine xo_rd (rd_assign rfl) rfl ?_
          refine xo_nil ?_
        have hl7 : (chA acc ⟨ss, nm⟩).length = ys.length + 1 + (4 - (ys.length + 1) % 4) % 4 := by rw [hcA, fil_len]; simp
        refine xq_tail (xq_roundI (⟨i + 1, s7, k7, l7⟩ : LgS) ⟨by dsimp only; omega, hok' (by omega), by dsimp only; rw [e1]; omega, ?_⟩ (by dsimp only; omega) rfl ?_)
        · dsimp only
          rw [e1, hl7, hcA]
          unfold fil
          rw [show (ys ++ [(0 : Int)]).length = ys.length + 1 from by simp]
          exact hO7
        · dsimp only
          rw [e1, hl7]
          exact (by repeat (first | exact keep_nil | refine keep_cons rfl ?_))
  · have hin' : i = n := by omega
    subst hin'
    rw [List.take_of_length_le (by omega)] at hO hle
    have hnone : ¬ xs.any (fun x => decide (255 < x.nm.size)) = true := fun h => by
      obtain ⟨x, hx, hd⟩ := List.any_eq_true.1 h
      obtain ⟨j, hj, rfl⟩ := List.getElem_of_mem hx
      have := hok j hj (by omega)
      have := of_decide_eq_true hd
      omega
    by_cases h31 : 31 < xs.length
    · rw [show putCh xs = (.zero, 2) from by unfold putCh; rw [if_neg hnone, if_pos h31]]
      focus
        refine xc_seq ?_
        refine xc_seq ?_
        refine xc_region ?_
        refine xo_rd (rd_move rfl) rfl ?_
        refine xo_rd (rd_move rfl) rfl ?_
        refine xo_rd (rd_len rfl) rfl ?_
        refine xo_rd (rd_lss rfl rfl) rfl ?_
        refine xo_nil ?_
        refine xq_seq ?_
        refine xc_dec rfl (fun hq1 => (by exfalso; omega)) (fun hq1 => ?_)
        refine xc_exit ?_
        refine xq_then_exit ?_
        refine xq_then_exit ?_
        refine xq_block_hit ?_
        refine xq_seq ?_
        refine xc_seq ?_
        refine xc_seq ?_
        refine xc_region ?_
        refine xo_rd (rd_move rfl) rfl ?_
        refine xo_rd (rd_len rfl) rfl ?_
        refine xo_rd (rd_gtr rfl rfl) rfl ?_
        refine xo_nil ?_
        refine xq_seq ?_
        refine xc_dec rfl (fun hq2 => ?_) (fun hq2 => (by exfalso; omega))
        refine xc_seq ?_
        refine xc_region ?_
        refine xo_rd (rd_build rfl rfl rfl) rfl ?_
        refine xo_ef rfl (ef_storeB [] _ rfl rfl (by first | rfl | assumption) rfl rfl rfl ?_)
        refine xo_rd (rd_assign rfl) rfl ?_
        refine xo_nil ?_
        refine xq_seq ?_
        refine xc_ret ?_
        refine xq_then_ret ?_
      exact xq_retB2 (.inl rfl) Try.results32 rfl rfl Kn.o0 rfl ((List.sublist_append_right l L).trans (List.sublist_cons_self _ _)) (PuM.err 2)
    · rw [show putCh xs = (⟨xs.length, 202, chunksL xs, 0⟩, 0) from by unfold putCh; rw [if_neg hnone, if_neg h31]]
      rw [List.take_of_length_le (by omega)]
      focus
        refine xc_seq ?_
        refine xc_seq ?_
        refine xc_region ?_
        refine xo_rd (rd_move rfl) rfl ?_
        refine xo_rd (rd_move rfl) rfl ?_
        refine xo_rd (rd_len rfl) rfl ?_
        refine xo_rd (rd_lss rfl rfl) rfl ?_
        refine xo_nil ?_
        refine xq_seq ?_
        refine xc_dec rfl (fun hq1 => (by exfalso; omega)) (fun hq1 => ?_)
        refine xc_exit ?_
        refine xq_then_exit ?_
        refine xq_then_exit ?_
        refine xq_block_hit ?_
        refine xq_seq ?_
        refine xc_seq ?_
        refine xc_seq ?_
        refine xc_region ?_
        refine xo_rd (rd_move rfl) rfl ?_
        refine xo_rd (rd_len rfl) rfl ?_
        refine xo_rd (rd_gtr rfl rfl) rfl ?_
        refine xo_nil ?_
        refine xq_seq ?_
        refine xc_dec rfl (fun hq2 => (by exfalso; omega)) (fun hq2 => ?_)
        refine xc_skip ?_
        refine xq_seq ?_
        refine xc_seq ?_
        refine xc_region ?_
        refine xo_rd (rd_move rfl) rfl ?_
        refine xo_rd (rd_len rfl) rfl ?_
        refine xo_rd (rd_convn rfl (by omega) (by omega)) rfl ?_
        refine xo_rd (rd_move rfl) rfl ?_
        refine xo_rd (rd_build rfl rfl rfl) rfl ?_
        refine xo_ef rfl (ef_storeB [] _ rfl rfl (by first | rfl | assumption) rfl rfl rfl ?_)
        refine xo_rd (rd_assign rfl) rfl ?_
        refine xo_nil ?_
        refine xq_seq ?_
        refine xc_ret ?_
      refine xq_retB2 (.inl rfl) Try.results32 rfl rfl Kn.o0 rfl (List.sublist_cons_self _ _) ⟨⟨⟨xs.length, 202, chunksL xs, 0⟩, s, k, l⟩, ?_, rfl, hO, rfl⟩
      unfold Pb.enc Pc.enc chunksL; dsimp only; rw [hx]; rfl
end Go.Proofs.Ytohlaabclifbfaa.X
