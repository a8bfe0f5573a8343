/-
  Texts of my own, put together: walks and laws for this seat. No condition.
-/
import Derived.Test.YtogilblilljpmaaS7
import Derived.Laws.StructEq
import Derived.Test.YtogilblilljpmaaS2
import Derived.Laws.LoneSync
/-
  The reference puts chunks; what comes in is copied as the reference has it: walks of my own.
-/
namespace Go.Proofs.Ytogilblilljpmaa.X
open Go Go.RowKit
set_option linter.unusedVariables false
set_option linter.unusedSimpArgs false
set_option maxHeartbeats 8000000 in
theorem xf_rputChunks {W : World} {L : List Blk} (p : Option Addr) (n c : Nat) (xs : List Ck) (hx : xs.length = n) (hr : Rs W L p (xs.flatMap Ck.enc)) (hg : ∀ x, x ∈ xs → U4 x.ss) (hn : n ≤ 1000000) :
    XF Try.prog W 52 #[.slice p n c] L (PuM L (putCh xs)) := by
  refine xf_enter (args := [_]) Try.func52 rfl Try.ntmps52 rfl ?_
  focus
    refine xc_seq ?_
    refine xc_region ?_
    refine xo_ef rfl (ef_alloc fun r2 => ?_)
    refine xo_rd (rd_assign rfl) rfl ?_
    refine xo_nil ?_
    refine xq_seq ?_
    refine xc_seq ?_
    refine xc_region ?_
    refine xo_rd (rd_assign rfl) rfl ?_
    refine xo_nil ?_
    refine xq_seq ?_
    refine xc_seq ?_
    refine xc_seq ?_
    refine xc_region ?_
    refine xo_rd (rd_assign rfl) rfl ?_
    refine xo_nil ?_
    refine xq_seq ?_
    refine xc_block ?_
  refine xc_loopI (ι := LgS) (fun z => z.i ≤ n ∧ (∀ j (h : j < xs.length), j < z.i → xs[j].nm.size ≤ 255) ∧ ((xs.take z.i).foldl chA []).length ≤ 300 * z.i ∧ SlO 1 5 (.slice z.s ((xs.take z.i).foldl chA []).length z.k) ((xs.take z.i).foldl chA []).length (ints .u8 ((xs.take z.i).foldl chA [])) z.l) (fun z => n - z.i) (fun z => (r2, .cells #[.int .u8 0, .int .u8 0, .slice none 0 0, .int .u8 0] 115 (0, 0)) :: (z.l ++ L)) (fun z => [(0, .slice p n c), (2, .pointer (some ⟨r2, 0, none⟩)), (3, .int .i64 0), (4, .slice z.s ((xs.take z.i).foldl chA []).length z.k), (5, .int .i64 z.i)]) ⟨0, none, 0, []⟩ ⟨Nat.zero_le _, (fun j h hj => absurd hj (Nat.not_lt_zero _)), Nat.zero_le _, SlO.nil⟩ rfl (by repeat (first | exact keep_nil | refine keep_cons rfl ?_)) ?_
  rintro ⟨i, s, k, l⟩ ⟨hi, hok, hle, hO⟩
  dsimp only at hi hok hle hO ⊢
  by_cases hin : i < n
  · obtain ⟨b, o, hp, hc⟩ := hr.rows Ck.len (by decide) (by omega)
    subst hp
    have hci := hc i (by omega)
    have hgx := hg xs[i] (List.getElem_mem _)
    have e1 : (xs.take (i + 1)).foldl chA [] = chA ((xs.take i).foldl chA []) xs[i] := by rw [List.take_add_one, List.getElem?_eq_getElem (by omega), List.foldl_append]; rfl
    have hbad : 255 < xs[i].nm.size → putCh xs = (.zero, 2) := fun h => by
      unfold putCh
      rw [if_pos]
      exact List.any_eq_true.2 ⟨xs[i], List.getElem_mem _, decide_eq_true h⟩
    have hok' : xs[i].nm.size ≤ 255 → ∀ j (h : j < xs.length), j < i + 1 → xs[j].nm.size ≤ 255 := fun h j hj hji => by
      by_cases hji2 : j < i
      · exact hok j hj hji2
      · obtain rfl : j = i := by omega
        exact h
    have hcl := chA_len ((xs.take i).foldl chA []) xs[i]
    generalize (xs.take i).foldl chA [] = acc at *
    generalize xs[i] = x at *
    obtain ⟨ss, nm⟩ := x
    have hc0 : ∀ L', (∀ z, z ∈ L → z ∈ L') → Cl W L' b (o + (i : Int).toNat * 2 + 0) (.int .u32 ss) := fun L' h => (hci 0 _ rfl).mono h
    have hc1 : ∀ L', (∀ z, z ∈ L → z ∈ L') → Cl W L' b (o + (i : Int).toNat * 2 + 1) (.string nm) := fun L' h => (hci 1 _ rfl).mono h
    dsimp only at hgx hbad hok' hcl
    by_cases hf : 255 < nm.size
    · rw [hbad hf]
      focus
        refine xc_seq ?_
        refine xc_seq ?_
        refine xc_region ?_
        refine xo_rd (rd_move rfl) rfl ?_
        refine xo_rd (rd_move rfl) rfl ?_
        refine xo_rd (rd_len rfl) rfl ?_
        refine xo_rd (rd_lss rfl rfl) rfl ?_
        refine xo_nil ?_
        refine xq_seq ?_
        refine xc_dec rfl (fun hq1 => ?_) (fun hq1 => (by exfalso; omega))
        refine xc_skip ?_
        refine xq_seq ?_
        refine xc_seq ?_
        refine xc_block ?_
        refine xc_seq ?_
        refine xc_seq ?_
        refine xc_region ?_
        refine xo_rd (rd_move rfl) rfl ?_
        refine xo_rd (rd_move rfl) rfl ?_
        refine xo_rd (rd_indexAddr rfl rfl (by omega) (by omega)) rfl ?_
        refine xo_rd (rd_fieldAddr rfl) rfl ?_
        refine xo_rd (rd_load1 rfl (hc1 _ (by intro z hz; simp [hz]))) rfl ?_
        refine xo_rd (rd_lenStr rfl) rfl ?_
        refine xo_rd (rd_gtr rfl rfl) rfl ?_
        refine xo_nil ?_
        refine xq_seq ?_
        refine xc_dec rfl (fun hq2 => ?_) (fun hq2 => (by exfalso; omega))
        refine xc_seq ?_
        refine xc_region ?_
        refine xo_rd (rd_build rfl rfl rfl) rfl ?_
        refine xo_ef rfl (ef_storeB [] _ rfl rfl (by first | rfl | assumption) rfl rfl rfl ?_)
        refine xo_rd (rd_assign rfl) rfl ?_
        refine xo_nil ?_
        refine xq_seq ?_
        refine xc_ret ?_
        refine xq_then_ret ?_
        refine xq_block_ret ?_
        refine xq_then_ret ?_
        refine xq_then_ret ?_
        refine xq_block_ret ?_
        refine xq_then_ret ?_
      all_goals exact xq_retB2 (.inl rfl) Try.results52 rfl rfl Kn.o0 rfl ((List.sublist_append_right l L).trans (List.sublist_cons_self _ _)) (PuM.err 2)
    · have hcl := hcl (by omega)
      have hl4 : (acc ++ [ss].flatMap be4).length = acc.length + 4 := by rw [List.length_append, flat4_len]; rfl
      focus
        refine xc_seq ?_
        refine xc_seq ?_
        refine xc_region ?_
        refine xo_rd (rd_move rfl) rfl ?_
        refine xo_rd (rd_move rfl) rfl ?_
        refine xo_rd (rd_len rfl) rfl ?_
        refine xo_rd (rd_lss rfl rfl) rfl ?_
        refine xo_nil ?_
        refine xq_seq ?_
        refine xc_dec rfl (fun hq1 => ?_) (fun hq1 => (by exfalso; omega))
        refine xc_skip ?_
        refine xq_seq ?_
        refine xc_seq ?_
        refine xc_block ?_
        refine xc_seq ?_
        refine xc_seq ?_
        refine xc_region ?_
        refine xo_rd (rd_move rfl) rfl ?_
        refine xo_rd (rd_move rfl) rfl ?_
        refine xo_rd (rd_indexAddr rfl rfl (by omega) (by omega)) rfl ?_
        refine xo_rd (rd_fieldAddr rfl) rfl ?_
        refine xo_rd (rd_load1 rfl (hc1 _ (by intro z hz; simp [hz]))) rfl ?_
        refine xo_rd (rd_lenStr rfl) rfl ?_
        refine xo_rd (rd_gtr rfl rfl) rfl ?_
        refine xo_nil ?_
        refine xq_seq ?_
        refine xc_dec rfl (fun hq2 => (by exfalso; omega)) (fun hq2 => ?_)
        refine xc_skip ?_
        refine xq_seq ?_
        refine xc_seq ?_
        refine xc_region ?_
        refine xo_rd (rd_move rfl) rfl ?_
        refine xo_rd (rd_move rfl) rfl ?_
        refine xo_rd (rd_move rfl) rfl ?_
        refine xo_rd (rd_indexAddr rfl rfl (by omega) (by omega)) rfl ?_
        refine xo_rd (rd_fieldAddr rfl) rfl ?_
        refine xo_rd (rd_load1 rfl (hc0 _ (by intro z hz; simp [hz]))) rfl ?_
        refine xo_ef rfl (ef_call rfl (XF.mono (xf_rlg ss hgx) ?_))
        rintro v L' ⟨s2, k2, l2, rfl, hO2, rfl⟩
        refine xo_perm (perm_p1 l2 l _) ?_
        refine xo_ef rfl (ef_appendS [_] _ l (news := ints .u8 (be4 ss)) rfl rfl hO rfl (hO2.rs (by intro z hz; simp [hz])) rfl rfl (by decide) (by omega) (by omega) fun s3 k3 l3 hO3 hk3 => ?_)
        refine xo_rd (rd_assign rfl) rfl ?_
        refine xo_nil ?_
        refine xq_seq ?_
      have hO4 : SlO 1 5 (.slice s3 (acc.length + 4) k3) (acc.length + 4) (ints .u8 (acc ++ [ss].flatMap be4)) l3 := by rw [ints_app, List.flatMap_singleton]; exact hO3
      clear hO3
      refine xc_sub (L' := (r2, .cells #[.int .u8 0, .int .u8 0, .slice none 0 0, .int .u8 0] 115 (0, 0)) :: (l3 ++ L)) (.cons_cons _ (List.Sublist.append_left (List.sublist_append_right _ L) l3)) ?_
      refine xc_join (ι := ChS) (fun z => z.ys = acc ++ [ss].flatMap be4 ++ nameL nm ∧ SlO 1 5 (.slice z.s z.ys.length z.k) z.ys.length (ints .u8 z.ys) z.l) (fun z => (r2, .cells #[.int .u8 0, .int .u8 0, .slice none 0 0, .int .u8 0] 115 (0, 0)) :: (z.l ++ L)) (fun z => [(0, .slice (some ⟨b, o, none⟩) n c), (2, .pointer (some ⟨r2, 0, none⟩)), (3, .int .i64 0), (4, .slice z.s z.ys.length z.k), (5, .int .i64 i)]) ?_ ?_
      · skip
        by_cases h0 : nm.size = 0
        · obtain rfl := nm_size0.1 h0
          focus
            refine xc_seq ?_
            refine xc_region ?_
            refine xo_rd (rd_move rfl) rfl ?_
            refine xo_rd (rd_move rfl) rfl ?_
            refine xo_rd (rd_indexAddr rfl rfl (by omega) (by omega)) rfl ?_
            refine xo_rd (rd_fieldAddr rfl) rfl ?_
            refine xo_rd (rd_load1 rfl (hc1 _ (by intro z hz; simp [hz]))) rfl ?_
            refine xo_rd (rd_cast (v' := .bool false) (rd_nes rfl rfl) (congrArg Value.bool (show (!decide ((⟨#[]⟩ : ByteArray) = ⟨#[]⟩)) = false from by rw [decide_eq_true rfl]; rfl))) rfl ?_
            refine xo_nil ?_
            refine xq_seq ?_
            refine xc_condf rfl ?_
            refine xc_skip ?_
          refine xq_joined (⟨acc ++ [ss].flatMap be4, s3, k3, l3⟩ : ChS) ⟨?_, by dsimp only; rw [hl4]; exact hO4⟩ rfl ?_
          · dsimp only; unfold nameL; rw [if_pos h0, List.append_nil]
          · dsimp only; rw [hl4]; exact (by repeat (first | exact keep_nil | refine keep_cons rfl ?_))
        · have hnm : ¬ nm = ⟨#[]⟩ := fun h => h0 (nm_size0.2 h)
          have hl5 : (acc ++ [ss].flatMap be4 ++ nameL nm).length = acc.length + 4 + 2 + nm.size := by
            unfold nameL
            rw [if_neg h0, List.length_append, hl4, List.length_append, sbs_len]
            simp; omega
          have hin5 : ints .u8 (acc ++ [ss].flatMap be4 ++ nameL nm) = ints .u8 (acc ++ [ss].flatMap be4) ++ ints .u8 [1, (nm.size : Int)] ++ ints .u8 (sbs nm) := by
            unfold nameL
            rw [if_neg h0, ints_app, ints_app _ [1, (nm.size : Int)], List.append_assoc]
          focus
            refine xc_seq ?_
            refine xc_region ?_
            refine xo_rd (rd_move rfl) rfl ?_
            refine xo_rd (rd_move rfl) rfl ?_
            refine xo_rd (rd_indexAddr rfl rfl (by omega) (by omega)) rfl ?_
            refine xo_rd (rd_fieldAddr rfl) rfl ?_
            refine xo_rd (rd_load1 rfl (hc1 _ (by intro z hz; simp [hz]))) rfl ?_
            refine xo_rd (rd_cast (v' := .bool true) (rd_nes rfl rfl) (congrArg Value.bool (show (!decide (nm = ⟨#[]⟩)) = true from by rw [decide_eq_false hnm]; rfl))) rfl ?_
            refine xo_nil ?_
            refine xq_seq ?_
            refine xc_condt rfl ?_
            refine xc_seq ?_
            refine xc_region ?_
            refine xo_rd (rd_move rfl) rfl ?_
            refine xo_rd (rd_move rfl) rfl ?_
            refine xo_rd (rd_move rfl) rfl ?_
            refine xo_rd (rd_indexAddr rfl rfl (by omega) (by omega)) rfl ?_
            refine xo_rd (rd_fieldAddr rfl) rfl ?_
            refine xo_rd (rd_load1 rfl (hc1 _ (by intro z hz; simp [hz]))) rfl ?_
            refine xo_rd (rd_lenStr rfl) rfl ?_
            refine xo_rd (rd_convn rfl (by omega) (by omega)) rfl ?_
            refine xo_ef rfl (ef_buildL (T := 49) (len := 2) (s := 1) (cells := (ints .u8 [1, (nm.size : Int)]).toArray) rfl (by decide) (by decide) (by kernel_rfl) fun r32 => ?_)
            refine xo_ef rfl (ef_appendS [_, _] _ l3 (news := ints .u8 [1, (nm.size : Int)]) rfl rfl hO4 rfl (Rs.fresh (List.Mem.head _)) rfl rfl (by decide) (by omega) (by omega) fun s4 k4 l4 hO5 hk4 => ?_)
            refine xo_rd (rd_assign rfl) rfl ?_
            refine xo_nil ?_
            refine xq_seq ?_
            refine xc_region ?_
            refine xo_rd (rd_move rfl) rfl ?_
            refine xo_rd (rd_move rfl) rfl ?_
            refine xo_rd (rd_move rfl) rfl ?_
            refine xo_rd (rd_indexAddr rfl rfl (by omega) (by omega)) rfl ?_
            refine xo_rd (rd_fieldAddr rfl) rfl ?_
            refine xo_rd (rd_load1 rfl (hc1 _ (by intro z hz; simp [hz]))) rfl ?_
            refine xo_ef rfl (ef_appendT [_, _] _ l4 rfl rfl hO5 rfl rfl (by omega) (by omega) fun s5 k5 l5 hO6 hk5 => ?_)
            refine xo_rd (rd_assign rfl) rfl ?_
            refine xo_nil ?_
          refine xq_tail (xq_joined (⟨acc ++ [ss].flatMap be4 ++ nameL nm, s5, k5, l5⟩ : ChS) ⟨rfl, by dsimp only; rw [hl5, hin5]; exact hO6⟩ rfl ?_)
          dsimp only; rw [hl5]; exact (by repeat (first | exact keep_nil | refine keep_cons rfl ?_))
      · rintro ⟨ys, s5, k5, l5⟩ ⟨hys, hO5⟩
        dsimp only at hys hO5 ⊢
        have hyl : ys.length ≤ acc.length + 270 := by
          have := nameL_len nm (by omega)
          rw [hys]
          simp only [List.length_append, flat4_len, List.length_singleton]
          omega
        have hcA : chA acc ⟨ss, nm⟩ = fil (ys ++ [0]) := by rw [hys]; rfl
        focus
          refine xc_region ?_
          refine xo_rd (rd_move rfl) rfl ?_
          refine xo_ef rfl (ef_slice1 rfl rfl rfl fun r40 => ?_)
          refine xo_ef rfl (ef_appendS [_, _] L l5 (news := [.int .u8 0]) rfl rfl hO5 rfl (Rs.fresh (List.Mem.head _)) rfl rfl (by decide) (by omega) (by omega) fun s6 k6 l6 hO6 hk6 => ?_)
          refine xo_ef rfl (ef_call rfl (XF.mono (XF.seg [_, _] l6 L (xf_rfilled _ (ys.length + 1) (ys ++ [0]) l6 (by rw [ints_snoc]; exact hO6) (by omega))) ?_))
          rintro v L' ⟨s7, k7, l7, rfl, hO7, rfl⟩
          refine xo_seg [_, _] l7 L ?_
          refine xo_rd (rd_assign rfl) rfl ?_
          refine xo_nil ?_
          refine xq_block ?_
          refine xq_seq ?_
          refine xc_region ?_
          refine xo_rd (rd_move rfl) rfl ?_
          refine xo_rd (rd_addn rfl rfl (by omega) (by omega)) rfl ?_
          refine xo_rd (rd_assign rfl) rfl ?_
          refine xo_nil ?_
        have hl7 : (chA acc ⟨ss, nm⟩).length = ys.length + 1 + (4 - (ys.length + 1) % 4) % 4 := by rw [hcA, fil_len]; simp
        refine xq_tail (xq_roundI (⟨i + 1, s7, k7, l7⟩ : LgS) ⟨by dsimp only; omega, hok' (by omega), by dsimp only; rw [e1]; omega, ?_⟩ (by dsimp only; omega) rfl ?_)
        · dsimp only
          rw [e1, hl7, hcA]
          unfold fil
          rw [show (ys ++ [(0 : Int)]).length = ys.length + 1 from by simp]
          exact hO7
        · dsimp only
          rw [e1, hl7]
          exact (by repeat (first | exact keep_nil | refine keep_cons rfl ?_))
  · have hin' : i = n := by omega
    subst hin'
    rw [List.take_of_length_le (by omega)] at hO hle
    have hnone : ¬ xs.any (fun x => decide (255 < x.nm.size)) = true := fun h => by
      obtain ⟨x, hx, hd⟩ := List.any_eq_true.1 h
      obtain ⟨j, hj, rfl⟩ := List.getElem_of_mem hx
      have := hok j hj (by omega)
      have := of_decide_eq_true hd
      omega
    by_cases h31 : 31 < xs.length
    · rw [show putCh xs = (.zero, 2) from by unfold putCh; rw [if_neg hnone, if_pos h31]]
      focus
        refine xc_seq ?_
        refine xc_seq ?_
        refine xc_region ?_
        refine xo_rd (rd_move rfl) rfl ?_
        refine xo_rd (rd_move rfl) rfl ?_
        refine xo_rd (rd_len rfl) rfl ?_
        refine xo_rd (rd_lss rfl rfl) rfl ?_
        refine xo_nil ?_
        refine xq_seq ?_
        refine xc_dec rfl (fun hq1 => (by exfalso; omega)) (fun hq1 => ?_)
        refine xc_exit ?_
        refine xq_then_exit ?_
        refine xq_then_exit ?_
        refine xq_block_hit ?_
        refine xq_seq ?_
        refine xc_seq ?_
        refine xc_seq ?_
        refine xc_region ?_
        refine xo_rd (rd_move rfl) rfl ?_
        refine xo_rd (rd_len rfl) rfl ?_
        refine xo_rd (rd_gtr rfl rfl) rfl ?_
        refine xo_nil ?_
        refine xq_seq ?_
        refine xc_dec rfl (fun hq2 => ?_) (fun hq2 => (by exfalso; omega))
        refine xc_seq ?_
        refine xc_region ?_
        refine xo_rd (rd_build rfl rfl rfl) rfl ?_
        refine xo_ef rfl (ef_storeB [] _ rfl rfl (by first | rfl | assumption) rfl rfl rfl ?_)
        refine xo_rd (rd_assign rfl) rfl ?_
        refine xo_nil ?_
        refine xq_seq ?_
        refine xc_ret ?_
        refine xq_then_ret ?_
      exact xq_retB2 (.inl rfl) Try.results52 rfl rfl Kn.o0 rfl ((List.sublist_append_right l L).trans (List.sublist_cons_self _ _)) (PuM.err 2)
    · rw [show putCh xs = (⟨xs.length, 202, chunksL xs, 0⟩, 0) from by unfold putCh; rw [if_neg hnone, if_neg h31]]
      rw [List.take_of_length_le (by omega)]
      focus
        refine xc_seq ?_
        refine xc_seq ?_
        refine xc_region ?_
        refine xo_rd (rd_move rfl) rfl ?_
        refine xo_rd (rd_move rfl) rfl ?_
        refine xo_rd (rd_len rfl) rfl ?_
        refine xo_rd (rd_lss rfl rfl) rfl ?_
        refine xo_nil ?_
        refine xq_seq ?_
        refine xc_dec rfl (fun hq1 => (by exfalso; omega)) (fun hq1 => ?_)
        refine xc_exit ?_
        refine xq_then_exit ?_
        refine xq_then_exit ?_
        refine xq_block_hit ?_
        refine xq_seq ?_
        refine xc_seq ?_
        refine xc_seq ?_
        refine xc_region ?_
        refine xo_rd (rd_move rfl) rfl ?_
        refine xo_rd (rd_len rfl) rfl ?_
        refine xo_rd (rd_gtr rfl rfl) rfl ?_
        refine xo_nil ?_
        refine xq_seq ?_
        refine xc_dec rfl (fun hq2 => (by exfalso; omega)) (fun hq2 => ?_)
        refine xc_skip ?_
        refine xq_seq ?_
        refine xc_seq ?_
        refine xc_region ?_
        refine xo_rd (rd_move rfl) rfl ?_
        refine xo_rd (rd_len rfl) rfl ?_
        refine xo_rd (rd_convn rfl (by omega) (by omega)) rfl ?_
        refine xo_rd (rd_move rfl) rfl ?_
        refine xo_rd (rd_build rfl rfl rfl) rfl ?_
        refine xo_ef rfl (ef_storeB [] _ rfl rfl (by first | rfl | assumption) rfl rfl rfl ?_)
        refine xo_rd (rd_assign rfl) rfl ?_
        refine xo_nil ?_
        refine xq_seq ?_
        refine xc_ret ?_
      refine xq_retB2 (.inl rfl) Try.results52 rfl rfl Kn.o0 rfl (List.sublist_cons_self _ _) ⟨⟨⟨xs.length, 202, chunksL xs, 0⟩, s, k, l⟩, ?_, rfl, hO, rfl⟩
      unfold Pb.enc Pc.enc chunksL; dsimp only; rw [hx]; rfl
end Go.Proofs.Ytogilblilljpmaa.X
/-
  What comes in is copied as the reference has it, and compared: walks of my own.
-/
namespace Go.Proofs.Ytogilblilljpmaa.X
open Go Go.RowKit
set_option linter.unusedVariables false
set_option linter.unusedSimpArgs false
theorem eqs35 (x y : Bk) (w : World) : (Op.equalIn 10000 35 (.agg x.enc.toArray) (.agg y.enc.toArray)).run Try.prog w = .ok (decide (x = y)) w := by
  have hS : Try.prog.underlying 35 = some (.struct (Try.prog.fieldsOf 35)) := by kernel_rfl
  have hp : Try.prog.stoodInHeld 35 = false := by kernel_rfl
  rw [show (10000 : Nat) = 9999 + 1 from rfl, run_equalIn_agg w 9999 35 _ _ hS hp]
  simp only [Program.fieldsOf, Try.underlying35, Bk.enc]
  go_simp
  by_cases h : x = y
  · subst h; simp
  · have hf : x.ss = y.ss → x.lo = y.lo → x.to = y.to → x.hi = y.hi → x.ji = y.ji → x.ls = y.ls → x.dl ≠ y.dl := fun h0 h1 h2 h3 h4 h5 h6 => h (by cases x; cases y; simp_all)
    rw [decide_eq_false h]
    (repeat' split) <;> first | rfl | (exfalso; apply hf <;> assumption)
theorem neS35 (x y : Bk) (o1 o2 : Operand) (w : World) : ((do eqGuard .neq 35 o1 o2 (.agg x.enc.toArray) (.agg y.enc.toArray); binOp .neq 35 (.agg x.enc.toArray) (.agg y.enc.toArray)) : Sem Value).run Try.prog w = .ok (.bool (!decide (x = y))) w := by
  rw [Sem.run_bind, run_eqGuard_agg _ _ _ _ _ _ _ Try.eqGuardType35, Result.andThen_ok, run_neq_struct, eqs35]
  rfl
theorem rd_ne35 {W : World} {n : Nat} {L : List Blk} {E : List (Nat × Value)} {d : Option Nat} {t : TypeId} {pos : String} {after : Array Edge} {g : Option (Nat × Bool)} {T' : Nat} {o1 o2 : Operand} {x : Bk} (hx : ev E o1 = some (.agg x.enc.toArray)) (hy : ev E o2 = some (.agg x.enc.toArray)) :
    RD Try.prog W n L E ⟨d, .binOp .neq 35 o1 o2 T', t, pos, after, g⟩ (.bool false) := rd_cast (rd_bin hx hy (neS35 x x o1 o2)) (by rw [decide_eq_true rfl]; rfl)
set_option maxHeartbeats 4000000 in
theorem xf_dBlocks {W : World} {L : List Blk} (p : Option Addr) (n c : Nat) (xs : List Bk) (hx : xs.length = n) (hr : Rs W L p (xs.flatMap Bk.enc)) (hn : n ≤ 1000000) :
    XF Try.prog W 16 #[.slice p n c] L (fun v L' => ∃ s k l, v = .slice s n k ∧ SlO 7 35 (.slice s n k) n (xs.flatMap Bk.enc) l ∧ L' = l ++ L) := by
  refine xf_enter (args := [_]) Try.func16 rfl Try.ntmps16 rfl ?_
  focus
    refine xc_seq ?_
    refine xc_region ?_
    refine xo_rd (rd_assign rfl) rfl ?_
    refine xo_nil ?_
    refine xq_seq ?_
    refine xc_seq ?_
    refine xc_region ?_
    refine xo_rd (rd_assign rfl) rfl ?_
    refine xo_nil ?_
    refine xq_seq ?_
    refine xc_seq ?_
    refine xc_seq ?_
    refine xc_region ?_
    refine xo_rd (rd_assign rfl) rfl ?_
    refine xo_nil ?_
    refine xq_seq ?_
    refine xc_block ?_
  refine xc_loopI (ι := LgS) (fun z => z.i ≤ n ∧ SlO 7 35 (.slice z.s z.i z.k) z.i ((xs.take z.i).flatMap Bk.enc) z.l) (fun z => n - z.i) (fun z => z.l ++ L) (fun z => [(0, .slice p n c), (3, .slice z.s z.i z.k), (4, .int .i64 z.i)]) ⟨0, none, 0, []⟩ ⟨Nat.zero_le _, SlO.nil⟩ rfl (by repeat (first | exact keep_nil | refine keep_cons rfl ?_)) ?_
  rintro ⟨i, s, k, l⟩ ⟨hi, hO⟩
  dsimp only at hi hO ⊢
  by_cases hin : i < n
  · obtain ⟨b, o, hp, hc⟩ := hr.rows Bk.len (by decide) (by omega)
    subst hp
    have hci := hc i (by omega)
    have e1 : xs.take (i + 1) = xs.take i ++ [xs[i]] := by rw [List.take_add_one, List.getElem?_eq_getElem (by omega)]; rfl
    generalize xs[i] = x at *
    have hcI : ∀ L', (∀ z, z ∈ L → z ∈ L') → ∀ (j : Nat) (u : Value), x.enc[j]? = some u → Cl W L' b (o + (i : Int).toNat * 7 + j) u := fun L' h j u hj => (hci j u hj).mono h
    obtain ⟨ss, lo, to, hi', ji, ls, dl⟩ := x
    focus
      refine xc_seq ?_
      refine xc_seq ?_
      refine xc_region ?_
      refine xo_rd (rd_move rfl) rfl ?_
      refine xo_rd (rd_move rfl) rfl ?_
      refine xo_rd (rd_len rfl) rfl ?_
      refine xo_rd (rd_lss rfl rfl) rfl ?_
      refine xo_nil ?_
      refine xq_seq ?_
      refine xc_dec rfl (fun h1 => ?_) (fun h1 => (by exfalso; omega))
      refine xc_skip ?_
      refine xq_seq ?_
      refine xc_seq ?_
      refine xc_block ?_
      refine xc_seq ?_
      refine xc_region ?_
      refine xo_rd (rd_move rfl) rfl ?_
      refine xo_rd (rd_move rfl) rfl ?_
      refine xo_rd (rd_indexAddr rfl rfl (by omega) (by omega)) rfl ?_
      refine xo_rd (rd_loadA (vs := [Value.int .u32 ss, .int .u8 lo, .int .i32 to, .int .u32 hi', .int .u32 ji, .int .u32 ls, .int .u32 dl]) rfl rfl (hcI _ (by intro z hz; simp [hz]))) rfl ?_
      refine xo_ef rfl (ef_alloc fun r5 => ?_)
      refine xo_ef rfl (ef_storeB [] _ rfl rfl (by first | rfl | assumption) rfl rfl rfl ?_)
      refine xo_nil ?_
      refine xq_seq ?_
      refine xc_region ?_
      refine xo_rd (rd_move rfl) rfl ?_
      refine xo_rd (rd_fieldAddr rfl) rfl ?_
      refine xo_rd (rd_load1 rfl (Cl.o0 rfl)) rfl ?_
      refine xo_rd (rd_fieldAddr rfl) rfl ?_
      refine xo_rd (rd_load1 rfl (Cl.o0 rfl)) rfl ?_
      refine xo_rd (rd_fieldAddr rfl) rfl ?_
      refine xo_rd (rd_load1 rfl (Cl.o0 rfl)) rfl ?_
      refine xo_rd (rd_fieldAddr rfl) rfl ?_
      refine xo_rd (rd_load1 rfl (Cl.o0 rfl)) rfl ?_
      refine xo_rd (rd_fieldAddr rfl) rfl ?_
      refine xo_rd (rd_load1 rfl (Cl.o0 rfl)) rfl ?_
      refine xo_rd (rd_fieldAddr rfl) rfl ?_
      refine xo_rd (rd_load1 rfl (Cl.o0 rfl)) rfl ?_
      refine xo_rd (rd_fieldAddr rfl) rfl ?_
      refine xo_rd (rd_load1 rfl (Cl.o0 rfl)) rfl ?_
      refine xo_rd (rd_build rfl rfl rfl) rfl ?_
      refine xo_ef rfl (ef_sliceA (vs := Bk.enc ⟨ss, lo, to, hi', ji, ls, dl⟩) rfl rfl (by rw [Bk.len]; decide) (by rw [Bk.len]; decide) fun r32 => ?_)
      refine xo_ef rfl (ef_appendS [_, _] L l (news := Bk.enc ⟨ss, lo, to, hi', ji, ls, dl⟩) rfl rfl hO rfl (Rs.fresh (List.Mem.head _)) rfl rfl (by decide) (by omega) (by omega) fun s' k' l' hO' hk' => ?_)
      refine xo_rd (rd_assign rfl) rfl ?_
      refine xo_nil ?_
      refine xq_block ?_
      refine xq_seq ?_
      refine xc_region ?_
      refine xo_rd (rd_move rfl) rfl ?_
      refine xo_rd (rd_addn rfl rfl (by omega) (by omega)) rfl ?_
      refine xo_rd (rd_assign rfl) rfl ?_
      refine xo_nil ?_
    refine xq_tail (xq_tail (xq_roundI (⟨i + 1, s', k', l'⟩ : LgS) ⟨by dsimp only; omega, ?_⟩ (by dsimp only; omega) rfl (by repeat (first | exact keep_nil | refine keep_cons rfl ?_))))
    dsimp only
    rw [e1, List.flatMap_append, List.flatMap_singleton]
    exact hO'
  · obtain rfl : i = n := by omega
    rw [List.take_of_length_le (by omega)] at hO
    focus
      refine xc_seq ?_
      refine xc_seq ?_
      refine xc_region ?_
      refine xo_rd (rd_move rfl) rfl ?_
      refine xo_rd (rd_move rfl) rfl ?_
      refine xo_rd (rd_len rfl) rfl ?_
      refine xo_rd (rd_lss rfl rfl) rfl ?_
      refine xo_nil ?_
      refine xq_seq ?_
      refine xc_dec rfl (fun h1 => (by exfalso; omega)) (fun h1 => ?_)
      refine xc_exit ?_
      refine xq_then_exit ?_
      refine xq_then_exit ?_
      refine xq_block_hit ?_
      refine xq_seq ?_
      refine xc_seq ?_
      refine xc_region ?_
      refine xo_rd (rd_move rfl) rfl ?_
      refine xo_rd (rd_assign rfl) rfl ?_
      refine xo_nil ?_
      refine xq_seq ?_
      refine xc_ret ?_
    exact xq_ret1 (.inl rfl) Try.results16 rfl ⟨s, k, l, rfl, hO, rfl⟩
end Go.Proofs.Ytogilblilljpmaa.X
/-
  What is the same is found so: walks of my own.
-/
namespace Go.Proofs.Ytogilblilljpmaa.X
open Go Go.RowKit
set_option linter.unusedVariables false
set_option linter.unusedSimpArgs false
def fewP (xs : List Ck) (a b c : Nat) : Bool := decide ((∀ x, x ∈ xs → x.nm.size ≤ 300) ∧ a ≤ 40 ∧ xs.length ≤ 40 ∧ b ≤ 40 ∧ c ≤ 300)
end Go.Proofs.Ytogilblilljpmaa.X
/-
  What is put is right, and told as it was: plain laws, no program.
-/
namespace Go.Proofs.Ytogilblilljpmaa.X
open Go Go.RowKit
set_option linter.unusedVariables false
set_option linter.unusedSimpArgs false
theorem take_app (xs ys : List Int) (k n : Nat) (h : xs.length = n) : (⟨xs ++ ys, k, false⟩ : Rd).take n = (xs, ⟨ys, k + n, false⟩) := by
  subst h
  rw [Rd.take_ok (by simp)]
  dsimp only
  rw [List.take_left, List.drop_left]
theorem take_be4 (z : Int) (ys : List Int) (k : Nat) : (⟨be4 z ++ ys, k, false⟩ : Rd).take 4 = (be4 z, ⟨ys, k + 4, false⟩) := take_app _ _ _ _ rfl
theorem Bk.vals {x : Bk} (h : x.Rg) (hf : x.fit = true) : (x.lo * 16777216 + x.to % 16777216) / 16777216 = x.lo ∧ to24 (x.lo * 16777216 + x.to % 16777216) = x.to ∧ U4 (x.lo * 16777216 + x.to % 16777216) := by
  have h1 := h.lo; have h2 := h.to
  have h3 := of_decide_eq_true hf
  unfold By at h1
  refine ⟨by omega, ?_, by unfold U4; omega⟩
  unfold to24
  rw [wrap32, IntKind.wrap_i32]
  have : (x.lo * 16777216 + x.to % 16777216) * 256 % 4294967296 = x.to % 16777216 * 256 := by omega
  rw [this]
  omega
theorem blk_app {x : Bk} (h : x.Rg) (hf : x.fit = true) (ys : List Int) (k : Nat) : (⟨bkL x ++ ys, k, false⟩ : Rd).blk = (x, ⟨ys, k + 4 + 4 + 4 + 4 + 4 + 4, false⟩) := by
  obtain ⟨v1, v2, v3⟩ := Bk.vals h hf
  have e : bkL x ++ ys = be4 x.ss ++ (be4 (x.lo * 16777216 + x.to % 16777216) ++ (be4 x.hi ++ (be4 x.ji ++ (be4 x.ls ++ (be4 x.dl ++ ys))))) := by
    unfold bkL Bk.nums
    simp only [List.flatMap_cons, List.flatMap_nil, List.append_nil, List.append_assoc]
  rw [e]
  unfold Rd.blk
  simp only [take_be4]
  rw [vl_be4 _ h.ss.1 h.ss.2, vl_be4 _ v3.1 v3.2, vl_be4 _ h.hi.1 h.hi.2, vl_be4 _ h.ji.1 h.ji.2, vl_be4 _ h.ls.1 h.ls.2, vl_be4 _ h.dl.1 h.dl.2, v1, v2]
theorem blks_app : ∀ (xs : List Bk) (ys : List Int) (k : Nat), (∀ x, x ∈ xs → x.Rg) → (∀ x, x ∈ xs → x.fit = true) → ∃ k', Rd.blks xs.length ⟨xs.flatMap bkL ++ ys, k, false⟩ = (xs, ⟨ys, k', false⟩)
  | [], ys, k, _, _ => ⟨k, rfl⟩
  | x :: r, ys, k, hg, hf => by
    obtain ⟨k', h⟩ := blks_app r ys (k + 4 + 4 + 4 + 4 + 4 + 4) (fun z hz => hg z (List.mem_cons_of_mem _ hz)) (fun z hz => hf z (List.mem_cons_of_mem _ hz))
    refine ⟨k', ?_⟩
    rw [List.flatMap_cons, List.append_assoc, List.length_cons, Rd.blks, blk_app (hg x (List.mem_cons_self ..)) (hf x (List.mem_cons_self ..))]
    dsimp only
    rw [h]
theorem ofSn_put {x : Sn} (hx : x.Rg) {q : Pc} (h : sndR x = (q, 0)) : ofSn q = (x, 0) ∧ q.Right ∧ q.Rg := by
  unfold sndR at h
  split at h
  · rename_i hb
    obtain ⟨h31, hb1, hfit⟩ := blkR_ok hb
    simp only [Prod.mk.injEq, and_true] at h
    subst h
    have hsn : (rd0 ⟨(x.bl.length : Int), 200, x.nums.flatMap be4 ++ x.bl.flatMap bkL, 0⟩).sn x.bl.length = (x, ((rd0 ⟨(x.bl.length : Int), 200, x.nums.flatMap be4 ++ x.bl.flatMap bkL, 0⟩).sn x.bl.length).2) ∧ ((rd0 ⟨(x.bl.length : Int), 200, x.nums.flatMap be4 ++ x.bl.flatMap bkL, 0⟩).sn x.bl.length).2.bad = false := by
      obtain ⟨k', hk⟩ := blks_app x.bl [] (0 + 4 + 4 + 4 + 4 + 4 + 4) hx.bl hfit
      rw [List.append_nil] at hk
      have e : x.nums.flatMap be4 ++ x.bl.flatMap bkL = be4 x.ss ++ (be4 (x.nt / 4294967296) ++ (be4 (x.nt % 4294967296) ++ (be4 x.rt ++ (be4 x.pk ++ (be4 x.oc ++ x.bl.flatMap bkL))))) := by
        unfold Sn.nums
        simp only [List.flatMap_cons, List.flatMap_nil, List.append_nil, List.append_assoc]
      have g2 := hx.nt
      have hfull : (rd0 ⟨(x.bl.length : Int), 200, x.nums.flatMap be4 ++ x.bl.flatMap bkL, 0⟩).sn x.bl.length = (x, ⟨[], k', false⟩) := by
        unfold rd0 Rd.sn
        dsimp only
        rw [e]
        simp only [take_be4]
        rw [hk, vl_be4 _ hx.ss.1 hx.ss.2, vl_be4 _ (by omega) (by omega), vl_be4 _ (by omega) (by omega), vl_be4 _ hx.rt.1 hx.rt.2, vl_be4 _ hx.pk.1 hx.pk.2, vl_be4 _ hx.oc.1 hx.oc.2, show x.nt / 4294967296 * 4294967296 + x.nt % 4294967296 = x.nt from by omega]
      rw [hfull]
      exact ⟨rfl, rfl⟩
    obtain ⟨h1, h2⟩ := hsn
    have htold : toldE ⟨(x.bl.length : Int), 200, x.nums.flatMap be4 ++ x.bl.flatMap bkL, 0⟩ ((rd0 ⟨(x.bl.length : Int), 200, x.nums.flatMap be4 ++ x.bl.flatMap bkL, 0⟩).sn x.bl.length).2 200 false = 0 := by
      unfold toldE
      rw [if_neg (by simp), if_neg (by rw [h2]; simp)]
    refine ⟨?_, ?_, ?_⟩
    · unfold ofSn
      dsimp only
      rw [show ((x.bl.length : Int)).toNat = x.bl.length from rfl, htold, if_pos rfl, h1]
    · refine ⟨by dsimp only; omega, ?_, rfl, ?_⟩
      · dsimp only; rw [List.length_append, flat4_len, bkLs_len]; omega
      · dsimp only; rw [List.length_append, flat4_len, bkLs_len]; show ((4 * 6 + 24 * x.bl.length : Nat) : Int) + 0 ≤ _; omega
    · refine ⟨⟨by dsimp only; omega, by dsimp only; omega⟩, (show By 200 from ⟨by decide, by decide⟩), fun z hz => ?_, (show By 0 from ⟨by decide, by decide⟩)⟩
      dsimp only at hz
      rcases List.mem_append.1 hz with h | h
      · obtain ⟨n, _, hn⟩ := List.mem_flatMap.1 h
        exact be4_by n z hn
      · obtain ⟨b, _, hn⟩ := List.mem_flatMap.1 h
        obtain ⟨n, _, hn⟩ := List.mem_flatMap.1 hn
        exact be4_by n z hn
  · simp at h
theorem ofRc_put {ss : Int} (hs : U4 ss) {bl : List Bk} (hg : ∀ b, b ∈ bl → b.Rg) {q : Pc} (h : rcvR ss bl = (q, 0)) : ofRc q = ((ss, bl), 0) ∧ q.Right ∧ q.Rg := by
  unfold rcvR at h
  split at h
  · rename_i hb
    obtain ⟨h31, hb1, hfit⟩ := blkR_ok hb
    simp only [Prod.mk.injEq, and_true] at h
    subst h
    obtain ⟨k', hk⟩ := blks_app bl [] (0 + 4) hg hfit
    rw [List.append_nil] at hk
    have hfull : (rd0 ⟨(bl.length : Int), 201, [ss].flatMap be4 ++ bl.flatMap bkL, 0⟩).rc bl.length = ((ss, bl), ⟨[], k', false⟩) := by
      unfold rd0 Rd.rc
      dsimp only
      rw [List.flatMap_singleton]
      simp only [take_be4]
      rw [hk, vl_be4 _ hs.1 hs.2]
    refine ⟨?_, ?_, ?_⟩
    · unfold ofRc
      dsimp only
      rw [show ((bl.length : Int)).toNat = bl.length from rfl, hfull]
      rfl
    · refine ⟨by dsimp only; omega, ?_, rfl, ?_⟩
      · dsimp only; rw [List.length_append, flat4_len, bkLs_len]; simp; omega
      · dsimp only; rw [List.length_append, flat4_len, bkLs_len]; show ((4 * 1 + 24 * bl.length : Nat) : Int) + 0 ≤ _; omega
    · refine ⟨⟨by dsimp only; omega, by dsimp only; omega⟩, (show By 201 from ⟨by decide, by decide⟩), fun z hz => ?_, (show By 0 from ⟨by decide, by decide⟩)⟩
      dsimp only at hz
      rcases List.mem_append.1 hz with h | h
      · obtain ⟨n, _, hn⟩ := List.mem_flatMap.1 h
        exact be4_by n z hn
      · obtain ⟨b, _, hn⟩ := List.mem_flatMap.1 h
        obtain ⟨n, _, hn⟩ := List.mem_flatMap.1 hn
        exact be4_by n z hn
  · simp at h
/-! ### who goes -/
theorem strOfNums_sbs (s : ByteArray) : strOfNums (sbs s) = s := by
  unfold strOfNums sbs
  cases s with
  | mk d =>
    congr 1
    rw [List.map_map]
    have : (fun n : Int => UInt8.ofNat n.toNat) ∘ (fun b : UInt8 => (b.toNat : Int)) = id := by
      funext b
      simp
    rw [this, List.map_id]
theorem lgs_app : ∀ (xs : List Int) (ys : List Int) (k : Nat), (∀ x, x ∈ xs → U4 x) → Rd.lgs xs.length ⟨xs.flatMap be4 ++ ys, k, false⟩ = (xs, ⟨ys, k + 4 * xs.length, false⟩)
  | [], ys, k, _ => rfl
  | x :: r, ys, k, h => by
    have h0 := h x (List.mem_cons_self ..)
    rw [List.flatMap_cons, List.append_assoc, List.length_cons, Rd.lgs, take_be4]
    dsimp only
    rw [lgs_app r ys (k + 4) (fun z hz => h z (List.mem_cons_of_mem _ hz)), vl_be4 _ h0.1 h0.2]
    dsimp only
    rw [show k + 4 + 4 * r.length = k + 4 * (r.length + 1) from by omega]
theorem text_app (xs ys : List Int) (k : Nat) : Rd.text ⟨(xs.length : Int) :: (xs ++ ys), k, false⟩ = (xs, ⟨ys, k + 1 + xs.length, false⟩) := by
  unfold Rd.text
  have e := take_app [(xs.length : Int)] (xs ++ ys) k 1 rfl
  rw [List.singleton_append] at e
  rw [e]
  dsimp only
  rw [show ([(xs.length : Int)].getD 0 0).toNat = xs.length from rfl, take_app _ _ _ _ rfl]
theorem fill_app (ys : List Int) (k : Nat) : Rd.fill ⟨List.replicate ((4 - k % 4) % 4) 0 ++ ys, k, false⟩ = ⟨ys, k + (4 - k % 4) % 4, false⟩ := by
  unfold Rd.fill
  dsimp only
  rw [take_app _ _ _ _ (by simp)]
theorem sbs_by (s : ByteArray) : ∀ x, x ∈ sbs s → By x := fun x hx => by
  unfold sbs at hx
  obtain ⟨b, _, rfl⟩ := List.mem_map.1 hx
  have := b.toNat_lt
  unfold By; omega
theorem byeB_by {x : By'} (hm : x.re.size ≤ 255) : ∀ z, z ∈ byeB x → By z := fun z hz => by
  unfold byeB at hz
  have h4 : ∀ z, z ∈ x.so.flatMap be4 → By z := fun z h => by
    obtain ⟨n, _, hn⟩ := List.mem_flatMap.1 h
    exact be4_by n z hn
  split at hz
  · exact h4 z hz
  · unfold fil at hz
    rcases List.mem_append.1 hz with h | h
    · rcases List.mem_append.1 h with h | h
      · rcases List.mem_append.1 h with h | h
        · exact h4 z h
        · rw [List.mem_singleton.1 h]; unfold By; omega
      · exact sbs_by _ z h
    · rw [(List.mem_replicate.1 h).2]; exact ⟨by decide, by decide⟩
theorem byeB_len (x : By') : (byeB x).length % 4 = 0 ∧ (byeB x).length ≤ 4 * x.so.length + x.re.size + 4 := by
  unfold byeB
  split
  · rw [flat4_len]; omega
  · rw [fil_len]
    simp only [List.length_append, flat4_len, sbs_len, List.length_singleton]
    omega
theorem ofBy_put {x : By'} (hu : ∀ z, z ∈ x.so → U4 z) {q : Pc} (h : putBy x = (q, 0)) : ofBy q = (x, 0) ∧ q.Right ∧ q.Rg := by
  unfold putBy at h
  split at h
  · simp at h
  · rename_i hb
    simp only [Prod.mk.injEq, and_true] at h
    subst h
    have hl := byeB_len x
    have hfull : ∃ k', (rd0 ⟨(x.so.length : Int), 203, byeB x, 0⟩).bye x.so.length = (x, ⟨[], k', false⟩) := by
      unfold rd0 Rd.bye
      dsimp only
      obtain ⟨so, re⟩ := x
      unfold byeB
      dsimp only at hu ⊢
      by_cases h0 : re.size = 0
      · rw [if_pos h0]
        have := lgs_app so [] 0 hu
        rw [List.append_nil] at this
        rw [this]
        obtain rfl := nm_size0.1 h0
        exact ⟨_, rfl⟩
      · rw [if_neg h0]
        have e : fil (so.flatMap be4 ++ [(re.size : Int)] ++ sbs re) = so.flatMap be4 ++ (((sbs re).length : Int) :: (sbs re ++ (List.replicate ((4 - (0 + 4 * so.length + 1 + (sbs re).length) % 4) % 4) 0 ++ []))) := by
          unfold fil
          rw [show (so.flatMap be4 ++ [(re.size : Int)] ++ sbs re).length = 0 + 4 * so.length + 1 + (sbs re).length from by simp only [List.length_append, flat4_len, List.length_singleton]; omega, sbs_len]
          simp only [List.append_assoc, List.append_nil, List.singleton_append, List.cons_append, List.nil_append]
        rw [e, lgs_app so _ 0 hu]
        dsimp only
        rw [if_pos (by simp), text_app, strOfNums_sbs]
        dsimp only
        rw [fill_app]
        exact ⟨_, rfl⟩
    obtain ⟨k', hfull⟩ := hfull
    refine ⟨?_, ?_, ?_⟩
    · unfold ofBy
      dsimp only
      rw [show ((x.so.length : Int)).toNat = x.so.length from rfl, hfull]
      rfl
    · exact ⟨by dsimp only; omega, hl.1, rfl, by dsimp only; omega⟩
    · exact ⟨⟨by dsimp only; omega, by dsimp only; omega⟩, (show By 203 from ⟨by decide, by decide⟩), byeB_by (by omega), (show By 0 from ⟨by decide, by decide⟩)⟩
/-! ### chunks -/
def chB (x : Ck) : List Int := fil (be4 x.ss ++ (nameL x.nm ++ [0]))
theorem chB_len (x : Ck) : (chB x).length % 4 = 0 := by
  unfold chB
  rw [fil_len]; omega
theorem chA_eq (acc : List Int) (x : Ck) (h : acc.length % 4 = 0) : chA acc x = acc ++ chB x := by
  unfold chA chB fil
  rw [List.flatMap_singleton]
  have : (4 - (acc ++ be4 x.ss ++ nameL x.nm ++ [0]).length % 4) % 4 = (4 - (be4 x.ss ++ (nameL x.nm ++ [0])).length % 4) % 4 := by
    simp only [List.length_append]; omega
  rw [this]
  simp only [List.append_assoc]
theorem chunksL_from : ∀ (l : List Ck) (acc : List Int), acc.length % 4 = 0 → l.foldl chA acc = acc ++ l.flatMap chB
  | [], acc, _ => (List.append_nil _).symm
  | x :: r, acc, h => by
    rw [List.foldl_cons, chA_eq acc x h, chunksL_from r (acc ++ chB x) (by rw [List.length_append]; have := chB_len x; omega), List.flatMap_cons, List.append_assoc]
theorem chunksL_eq (l : List Ck) : chunksL l = l.flatMap chB := chunksL_from l [] rfl
theorem chunk_app {x : Ck} (hs : U4 x.ss) (hm : x.nm.size ≤ 255) (ys : List Int) (k : Nat) (hk : k % 4 = 0) : (⟨chB x ++ ys, k, false⟩ : Rd).chunk = (x, ⟨ys, k + (chB x).length, false⟩) := by
  obtain ⟨ss, nm⟩ := x
  dsimp only at hs hm
  unfold Rd.chunk Rd.itm
  have e : chB ⟨ss, nm⟩ ++ ys = be4 ss ++ (nameL nm ++ (0 :: (List.replicate ((4 - (k + 4 + (nameL nm).length + 1) % 4) % 4) 0 ++ ys))) := by
    unfold chB fil
    have : (4 - (be4 ss ++ (nameL nm ++ [0])).length % 4) % 4 = (4 - (k + 4 + (nameL nm).length + 1) % 4) % 4 := by
      simp only [List.length_append, List.length_singleton, show (be4 ss).length = 4 from rfl]; omega
    dsimp only
    rw [this]
    simp only [List.append_assoc, List.singleton_append, List.cons_append, List.nil_append]
  have el : (chB ⟨ss, nm⟩).length = 4 + (nameL nm).length + 1 + (4 - (k + 4 + (nameL nm).length + 1) % 4) % 4 := by
    unfold chB
    rw [fil_len]
    simp only [List.length_append, List.length_singleton, show (be4 ss).length = 4 from rfl]
    omega
  rw [e, take_be4, vl_be4 _ hs.1 hs.2]
  dsimp only
  have hz : ∀ (zs : List Int) (k : Nat), (⟨0 :: zs, k, false⟩ : Rd).take 1 = ([0], ⟨zs, k + 1, false⟩) := fun zs k => take_app [0] zs k 1 rfl
  by_cases h0 : nm.size = 0
  · have hn0 : nameL nm = [] := by unfold nameL; rw [if_pos h0]
    rw [hn0] at el ⊢
    rw [List.nil_append, hz]
    dsimp only
    have hi : ∀ K r, Rd.items K r (([0] : List Int).getD 0 0) false [] = ([], r) := fun K r => by
      cases K with
      | zero => rfl
      | succ K => rw [Rd.items, if_neg (fun h => h.1 rfl)]
    rw [hi]
    dsimp only
    rw [List.length_nil, Nat.add_zero, fill_app]
    obtain rfl := nm_size0.1 h0
    rw [el]
    refine Prod.ext rfl ?_
    show (⟨ys, _, false⟩ : Rd) = ⟨ys, _, false⟩
    congr 1
    simp only [List.length_nil]
    omega
  · have hnl : nameL nm = 1 :: ((sbs nm).length : Int) :: sbs nm := by unfold nameL; rw [if_neg h0, sbs_len]; rfl
    rw [hnl] at el ⊢
    rw [List.cons_append, List.cons_append]
    have h1 : ∀ (zs : List Int) (k : Nat), (⟨1 :: zs, k, false⟩ : Rd).take 1 = ([1], ⟨zs, k + 1, false⟩) := fun zs k => take_app [1] zs k 1 rfl
    rw [h1]
    dsimp only
    have hi : ∀ K r nm, Rd.items K r (([0] : List Int).getD 0 0) true nm = (nm, r) := fun K r nm => by
      cases K with
      | zero => rfl
      | succ K => rw [Rd.items, if_neg (fun h => h.1 rfl)]
    rw [Rd.items, if_pos ⟨by decide, rfl⟩, text_app]
    dsimp only
    rw [hz]
    dsimp only
    rw [show (false || decide (([1] : List Int).getD 0 0 = 1)) = true from rfl, hi, if_pos ⟨rfl, rfl⟩, strOfNums_sbs]
    dsimp only
    have hk2 : k + 4 + (1 :: ((sbs nm).length : Int) :: sbs nm).length + 1 = k + 4 + 1 + 1 + (sbs nm).length + 1 := by simp only [List.length_cons]; omega
    rw [hk2, fill_app, el, hk2]
    have : k + 4 + 1 + 1 + (sbs nm).length + 1 + (4 - (k + 4 + 1 + 1 + (sbs nm).length + 1) % 4) % 4 = k + (4 + (1 :: ((sbs nm).length : Int) :: sbs nm).length + 1 + (4 - (k + 4 + 1 + 1 + (sbs nm).length + 1) % 4) % 4) := by
      simp only [List.length_cons]; omega
    rw [this]
theorem chs_app : ∀ (xs : List Ck) (ys : List Int) (k : Nat), k % 4 = 0 → (∀ x, x ∈ xs → U4 x.ss ∧ x.nm.size ≤ 255) → ∃ k', Rd.chs xs.length ⟨xs.flatMap chB ++ ys, k, false⟩ = (xs, ⟨ys, k', false⟩)
  | [], ys, k, _, _ => ⟨k, rfl⟩
  | x :: r, ys, k, hk, h => by
    have h0 := h x (List.mem_cons_self ..)
    obtain ⟨k', h'⟩ := chs_app r ys (k + (chB x).length) (by have := chB_len x; omega) (fun z hz => h z (List.mem_cons_of_mem _ hz))
    refine ⟨k', ?_⟩
    rw [List.flatMap_cons, List.append_assoc, List.length_cons, Rd.chs, chunk_app h0.1 h0.2 _ _ hk]
    dsimp only
    rw [h']
theorem chB_by {x : Ck} (hm : x.nm.size ≤ 255) : ∀ z, z ∈ chB x → By z := fun z hz => by
  unfold chB fil at hz
  rcases List.mem_append.1 hz with h | h
  · rcases List.mem_append.1 h with h | h
    · exact be4_by _ z h
    · rcases List.mem_append.1 h with h | h
      · unfold nameL at h
        split at h
        · cases h
        · rcases List.mem_append.1 h with h | h
          · simp only [List.mem_cons, List.not_mem_nil, or_false] at h
            rcases h with rfl | rfl <;> (unfold By; omega)
          · exact sbs_by _ z h
      · rw [List.mem_singleton.1 h]; exact ⟨by decide, by decide⟩
  · rw [(List.mem_replicate.1 h).2]; exact ⟨by decide, by decide⟩
theorem chBs_len : ∀ (xs : List Ck), (∀ x, x ∈ xs → x.nm.size ≤ 255) → (xs.flatMap chB).length % 4 = 0 ∧ (xs.flatMap chB).length ≤ 300 * xs.length
  | [], _ => ⟨rfl, Nat.zero_le _⟩
  | x :: r, h => by
    obtain ⟨h1, h2⟩ := chBs_len r fun z hz => h z (List.mem_cons_of_mem _ hz)
    have h3 := chB_len x
    have h0 := nameL_len x.nm (h x (List.mem_cons_self ..))
    have h4 : (chB x).length ≤ 300 := by
      unfold chB
      rw [fil_len]
      simp only [List.length_append, List.length_singleton, show (be4 x.ss).length = 4 from rfl]
      omega
    rw [List.flatMap_cons, List.length_append, List.length_cons]
    omega
theorem ofCh_put {xs : List Ck} (hu : ∀ x, x ∈ xs → U4 x.ss) {q : Pc} (h : putCh xs = (q, 0)) : ofCh q = (xs, 0) ∧ q.Right ∧ q.Rg := by
  unfold putCh at h
  split at h
  · simp at h
  · rename_i ha
    split at h
    · simp at h
    · rename_i h31
      simp only [Prod.mk.injEq, and_true] at h
      subst h
      have hsm : ∀ x, x ∈ xs → x.nm.size ≤ 255 := fun x hx => by
        have : ¬ 255 < x.nm.size := fun hc => ha (List.any_eq_true.2 ⟨x, hx, decide_eq_true hc⟩)
        omega
      obtain ⟨k', hk⟩ := chs_app xs [] 0 rfl fun x hx => ⟨hu x hx, hsm x hx⟩
      rw [List.append_nil] at hk
      obtain ⟨l1, l2⟩ := chBs_len xs hsm
      rw [chunksL_eq]
      have hfull : (rd0 ⟨(xs.length : Int), 202, xs.flatMap chB, 0⟩).chs xs.length = (xs, ⟨[], k', false⟩) := hk
      refine ⟨?_, ?_, ?_⟩
      · unfold ofCh
        dsimp only
        rw [show ((xs.length : Int)).toNat = xs.length from rfl, hfull]
        rfl
      · exact ⟨by dsimp only; omega, l1, rfl, by dsimp only; omega⟩
      · refine ⟨⟨by dsimp only; omega, by dsimp only; omega⟩, (show By 202 from ⟨by decide, by decide⟩), fun z hz => ?_, (show By 0 from ⟨by decide, by decide⟩)⟩
        dsimp only at hz
        obtain ⟨x, hx, hn⟩ := List.mem_flatMap.1 hz
        exact chB_by (hsm x hx) z hn
end Go.Proofs.Ytogilblilljpmaa.X
/-
  What is put and told, by names for its answers.
-/
namespace Go.Proofs.Ytogilblilljpmaa.X
open Go Go.RowKit
set_option linter.unusedVariables false
set_option linter.unusedSimpArgs false
/-- A packet that was put: where it lies. -/
def PbM (L : List Blk) (q : Pc) (e : Int) (v : Value) (L' : List Blk) : Prop := ∃ x : Pb, v = .tuple #[.agg x.enc.toArray, .int .i64 e] ∧ x.q = q ∧ x.Ok ∧ L' = x.l ++ L
theorem PuM.to {L : List Blk} {z : Pc × Int} {q : Pc} {e : Int} (h : z = (q, e)) {v : Value} {L' : List Blk} (hp : PuM L z v L') : PbM L q e v L' := by subst h; exact hp
section
variable {W : World} {L : List Blk}
theorem xg_sender (x : Sn) (hx : x.Rg) (p : Option Addr) (c : Nat) (q : Pc) (e : Int) (hz : sndR x = (q, e)) (hr : Rs W L p (x.bl.flatMap Bk.enc)) (hn : x.bl.length ≤ 1000000) : XF Try.prog W 45 #[.agg (x.enc (.slice p x.bl.length c)).toArray] L (PbM L q e) := (xf_sender x hx p c hr hn).mono fun _ _ h => PuM.to hz h
theorem xg_receiver (ss : Int) (hs : U4 ss) (p : Option Addr) (n c : Nat) (xs : List Bk) (q : Pc) (e : Int) (hz : rcvR ss xs = (q, e)) (hx : xs.length = n) (hr : Rs W L p (xs.flatMap Bk.enc)) (hg : ∀ x, x ∈ xs → x.Rg) (hn : n ≤ 1000000) : XF Try.prog W 44 #[.agg #[.int .u32 ss, .slice p n c]] L (PbM L q e) := (xf_receiver ss hs p n c xs hx hr hg hn).mono fun _ _ h => PuM.to hz h
theorem xg_chunks (p : Option Addr) (n c : Nat) (xs : List Ck) (q : Pc) (e : Int) (hz : putCh xs = (q, e)) (hx : xs.length = n) (hr : Rs W L p (xs.flatMap Ck.enc)) (hg : ∀ x, x ∈ xs → U4 x.ss) (hn : n ≤ 1000000) : XF Try.prog W 46 #[.slice p n c] L (PbM L q e) := (xf_putChunks p n c xs hx hr hg hn).mono fun _ _ h => PuM.to hz h
theorem xg_rsender (x : Sn) (hx : x.Rg) (p : Option Addr) (c : Nat) (q : Pc) (e : Int) (hz : sndR x = (q, e)) (hr : Rs W L p (x.bl.flatMap Bk.enc)) (hn : x.bl.length ≤ 1000000) : XF Try.prog W 51 #[.agg (x.enc (.slice p x.bl.length c)).toArray] L (PbM L q e) := (xf_rsender x hx p c hr hn).mono fun _ _ h => PuM.to hz h
theorem xg_rreceiver (ss : Int) (hs : U4 ss) (p : Option Addr) (n c : Nat) (xs : List Bk) (q : Pc) (e : Int) (hz : rcvR ss xs = (q, e)) (hx : xs.length = n) (hr : Rs W L p (xs.flatMap Bk.enc)) (hg : ∀ x, x ∈ xs → x.Rg) (hn : n ≤ 1000000) : XF Try.prog W 50 #[.agg #[.int .u32 ss, .slice p n c]] L (PbM L q e) := (xf_rreceiver ss hs p n c xs hx hr hg hn).mono fun _ _ h => PuM.to hz h
theorem xg_rchunks (p : Option Addr) (n c : Nat) (xs : List Ck) (q : Pc) (e : Int) (hz : putCh xs = (q, e)) (hx : xs.length = n) (hr : Rs W L p (xs.flatMap Ck.enc)) (hg : ∀ x, x ∈ xs → U4 x.ss) (hn : n ≤ 1000000) : XF Try.prog W 52 #[.slice p n c] L (PbM L q e) := (xf_rputChunks p n c xs hx hr hg hn).mono fun _ _ h => PuM.to hz h
theorem xg_ofSender (y : Pb) (x : Sn) (hz : ofSn y.q = (x, 0)) (hr : Rs W L y.p (ints .u8 y.q.bd)) (hg : y.q.Rg) (hc : y.q.bd.length ≤ y.c) (hn : y.q.bd.length ≤ 1000000) : XF Try.prog W 34 #[.agg y.enc.toArray] L (fun v L' => ∃ s k l, v = .tuple #[.agg (x.enc (.slice s x.bl.length k)).toArray, .int .i64 0] ∧ SlO 7 30 (.slice s x.bl.length k) x.bl.length (x.bl.flatMap Bk.enc) l ∧ L' = l ++ L) := by
  have := xf_ofSender y hr hg hc hn
  rwa [hz] at this
theorem xg_ofReceiver (y : Pb) (ss : Int) (bl : List Bk) (hz : ofRc y.q = ((ss, bl), 0)) (hr : Rs W L y.p (ints .u8 y.q.bd)) (hg : y.q.Rg) (hc : y.q.bd.length ≤ y.c) (hn : y.q.bd.length ≤ 1000000) : XF Try.prog W 35 #[.agg y.enc.toArray] L (fun v L' => ∃ s k l, v = .tuple #[.agg #[.int .u32 ss, .slice s bl.length k], .int .i64 0] ∧ SlO 7 30 (.slice s bl.length k) bl.length (bl.flatMap Bk.enc) l ∧ L' = l ++ L) := by
  have := xf_ofReceiver y hr hg hc hn
  rwa [hz] at this
theorem xg_ofChunks (y : Pb) (xs : List Ck) (hz : ofCh y.q = (xs, 0)) (hr : Rs W L y.p (ints .u8 y.q.bd)) (hg : y.q.Rg) (hc : y.q.bd.length ≤ y.c) (hn : y.q.bd.length ≤ 1000000) : XF Try.prog W 36 #[.agg y.enc.toArray] L (fun v L' => ∃ s k l, v = .tuple #[.slice s xs.length k, .int .i64 0] ∧ SlO 2 90 (.slice s xs.length k) xs.length (xs.flatMap Ck.enc) l ∧ L' = l ++ L) := by
  have := xf_ofChunks y hr hg hc hn
  rwa [hz] at this
end
theorem sndR_rg {x : Sn} (hx : x.Rg) : (sndR x).1.Rg := by
  obtain ⟨⟨q, e⟩, h⟩ : ∃ z, sndR x = z := ⟨_, rfl⟩
  rw [h]
  by_cases he : e = 0
  · subst he; exact (ofSn_put hx h).2.2
  · unfold sndR at h
    split at h
    · simp only [Prod.mk.injEq] at h; exact absurd h.2.symm he
    · simp only [Prod.mk.injEq] at h; rw [← h.1]; exact Pc.zero_rg
theorem rcvR_rg {ss : Int} (hs : U4 ss) {bl : List Bk} (hg : ∀ b, b ∈ bl → b.Rg) : (rcvR ss bl).1.Rg := by
  obtain ⟨⟨q, e⟩, h⟩ : ∃ z, rcvR ss bl = z := ⟨_, rfl⟩
  rw [h]
  by_cases he : e = 0
  · subst he; exact (ofRc_put hs hg h).2.2
  · unfold rcvR at h
    split at h
    · simp only [Prod.mk.injEq] at h; exact absurd h.2.symm he
    · simp only [Prod.mk.injEq] at h; rw [← h.1]; exact Pc.zero_rg
theorem putCh_rg {xs : List Ck} (hu : ∀ x, x ∈ xs → U4 x.ss) : (putCh xs).1.Rg := by
  obtain ⟨⟨q, e⟩, h⟩ : ∃ z, putCh xs = z := ⟨_, rfl⟩
  rw [h]
  by_cases he : e = 0
  · subst he; exact (ofCh_put hu h).2.2
  · unfold putCh at h
    split at h
    · simp only [Prod.mk.injEq] at h; rw [← h.1]; exact Pc.zero_rg
    · split at h
      · simp only [Prod.mk.injEq] at h; rw [← h.1]; exact Pc.zero_rg
      · simp only [Prod.mk.injEq] at h; exact absurd h.2.symm he
theorem putBy_rg {x : By'} (hu : ∀ z, z ∈ x.so → U4 z) : (putBy x).1.Rg := by
  obtain ⟨⟨q, e⟩, h⟩ : ∃ z, putBy x = z := ⟨_, rfl⟩
  rw [h]
  by_cases he : e = 0
  · subst he; exact (ofBy_put hu h).2.2
  · unfold putBy at h
    split at h
    · simp only [Prod.mk.injEq] at h; rw [← h.1]; exact Pc.zero_rg
    · simp only [Prod.mk.injEq] at h; exact absurd h.2.symm he
theorem sndR_len (x : Sn) : (sndR x).1.bd.length ≤ 24 + 24 * x.bl.length := by
  unfold sndR
  split
  · dsimp only; rw [List.length_append, flat4_len, bkLs_len]; simp [Sn.nums]
  · exact Nat.zero_le _
theorem rcvR_len (ss : Int) (bl : List Bk) : (rcvR ss bl).1.bd.length ≤ 24 + 24 * bl.length := by
  unfold rcvR
  split
  · dsimp only; rw [List.length_append, flat4_len, bkLs_len]; simp
  · exact Nat.zero_le _
theorem putCh_len (xs : List Ck) : (putCh xs).1.bd.length ≤ 300 * xs.length := by
  unfold putCh
  split
  · exact Nat.zero_le _
  · rename_i ha
    split
    · exact Nat.zero_le _
    · dsimp only
      rw [chunksL_eq]
      exact (chBs_len xs fun x hx => by
        have : ¬ 255 < x.nm.size := fun hc => ha (List.any_eq_true.2 ⟨x, hx, decide_eq_true hc⟩)
        omega).2
theorem putBy_len (x : By') : (putBy x).1.bd.length ≤ 4 * x.so.length + x.re.size + 4 := by
  unfold putBy
  split
  · exact Nat.zero_le _
  · exact (byeB_len x).2
end Go.Proofs.Ytogilblilljpmaa.X
/-
  Words of my own for walks: a function without a body that reads or writes one cell. No condition; generic over the program.
-/
namespace Go.Proofs.Ytogilblilljpmaa.X
open Go Go.RowKit
set_option linter.unusedVariables false
section
variable {P : Program} {W : World} {n : Nat} {L : List Blk} {E : List (Nat × Value)} {d : Option Nat} {t : TypeId} {pos : String} {after : Array Edge} {g : Option (Nat × Bool)} {K : Value → List Blk → Prop}
theorem rd_xcell {f b i : Nat} {args : List Operand} {ts : Array TypeId} {u v : Value} {vs : List Value} (hf : ∀ w, w.cell? ⟨b, i, none⟩ = some u → (callFunc f vs.toArray).run P w = .ok (.value v) w) (h : evs E args = some vs) (hc : Cl W L b i u) :
    RD P W n L E ⟨d, .call ⟨.value (.func f), args.toArray, ts⟩, t, pos, after, g⟩ v := .mk fun a w ha hw => by
  have he := ha.evals h
  have hv : a.eval (.func f) = .func (.func f) #[] #[] := rfl
  have hc := hf w (hc.get hw)
  simp only [execOp, resolve, hv]
  simp [Deferred.ofValue, invoke, he]
  simpa using hc
theorem ef_xcell (A R : List Blk) {f b i T' : Nat} {args : List Operand} {ts : Array TypeId} {u u' v : Value} {vs cs : List Value} (hf : ∀ w, w.cell? ⟨b, i, none⟩ = some u → w.frozen? ⟨b, i, none⟩ = false → (callFunc f vs.toArray).run P w = .ok (.value v) (w.setCell ⟨b, i, none⟩ u'))
    (h : evs E args = some vs) (hL : L = A ++ (b, .cells cs.toArray T' (0, 0)) :: R) (hi : cs[i]? = some u) (hk : K v (A ++ (b, .cells (cs.set i u').toArray T' (0, 0)) :: R)) :
    EF P W n L E ⟨d, .call ⟨.value (.func f), args.toArray, ts⟩, t, pos, after, g⟩ K := by
  refine ⟨fun a w ha hw => ?_⟩
  rw [← List.setIfInBounds_toArray] at hk
  obtain ⟨ca, hca⟩ : ∃ ca : Array Value, ca = cs.toArray := ⟨_, rfl⟩
  have hi : ca[i]? = some u := by rw [hca]; simpa using hi
  rw [← hca] at hL hk
  subst hL
  have hc : w.cell? ⟨b, i, none⟩ = some u := by simp [World.cell?, hw.mid, hi]
  have hz : w.frozen? ⟨b, i, none⟩ = false := by simp [World.frozen?, hw.mid]
  have he := ha.evals h
  have hv : a.eval (.func f) = .func (.func f) #[] #[] := rfl
  have hr := hf w hc hz
  have hrun : (execOp a.eval ⟨d, .call ⟨.value (.func f), args.toArray, ts⟩, t, pos, after, g⟩).run P w = .ok (.value v) (w.setCell ⟨b, i, none⟩ u') := by
    simp only [execOp, resolve, hv]
    simp [Deferred.ofValue, invoke, he]
    simpa using hr
  rw [hrun, setCell_eq_setRow w b i ca T' (0, 0) u' hw.mid]
  exact ⟨_, hw.turnAt rfl rfl rfl (setRow_heap w b ca _ T' (0, 0) hw.mid) (fun k hk => setRow_other w b k _ hk), hk⟩
end
end Go.Proofs.Ytogilblilljpmaa.X
/-
  The report layer's counters, by walks of my own: what goes through package atomic; clocks, units, ticks.
-/
namespace Go.Proofs.Ytogilblilljpmaa.X
open Go Go.RowKit
set_option linter.unusedVariables false
set_option linter.unusedSimpArgs false
def U8 (n : Int) : Prop := 0 ≤ n ∧ n ≤ 18446744073709551615
theorem run_load64 {b i : Nat} {x : Int} : ∀ w, w.cell? ⟨b, i, none⟩ = some (.int .u64 x) → (callFunc 62 [Value.pointer (some ⟨b, i, none⟩)].toArray).run Try.prog w = .ok (.value (.int .u64 x)) w := fun w h =>
  run_call_load Try.func62 (by kernel_rfl) (by kernel_rfl) (by kernel_rfl) .u64 (by kernel_rfl) h
theorem run_load32 {b i : Nat} {x : Int} : ∀ w, w.cell? ⟨b, i, none⟩ = some (.int .u32 x) → (callFunc 63 [Value.pointer (some ⟨b, i, none⟩)].toArray).run Try.prog w = .ok (.value (.int .u32 x)) w := fun w h =>
  run_call_load Try.func63 (by kernel_rfl) (by kernel_rfl) (by kernel_rfl) .u32 (by kernel_rfl) h
theorem run_store64 {b i : Nat} {u : Value} {x : Int} : ∀ w, w.cell? ⟨b, i, none⟩ = some u → w.frozen? ⟨b, i, none⟩ = false → (callFunc 61 [Value.pointer (some ⟨b, i, none⟩), .int .u64 x].toArray).run Try.prog w = .ok (.value (.tuple #[])) (w.setCell ⟨b, i, none⟩ (.int .u64 x)) := fun w h hz =>
  run_call_store Try.func61 (by kernel_rfl) (by kernel_rfl) (by kernel_rfl) (by kernel_rfl) h hz
theorem run_store32 {b i : Nat} {u : Value} {x : Int} : ∀ w, w.cell? ⟨b, i, none⟩ = some u → w.frozen? ⟨b, i, none⟩ = false → (callFunc 60 [Value.pointer (some ⟨b, i, none⟩), .int .u32 x].toArray).run Try.prog w = .ok (.value (.tuple #[])) (w.setCell ⟨b, i, none⟩ (.int .u32 x)) := fun w h hz =>
  run_call_store Try.func60 (by kernel_rfl) (by kernel_rfl) (by kernel_rfl) (by kernel_rfl) h hz
theorem run_add64 {b i : Nat} {x y : Int} : ∀ w, w.cell? ⟨b, i, none⟩ = some (.int .u64 x) → w.frozen? ⟨b, i, none⟩ = false → (callFunc 59 [Value.pointer (some ⟨b, i, none⟩), .int .u64 y].toArray).run Try.prog w = .ok (.value (.int .u64 (IntKind.u64.wrap (x + y)))) (w.setCell ⟨b, i, none⟩ (.int .u64 (IntKind.u64.wrap (x + y)))) := fun w h hz =>
  run_call_add Try.func59 (by kernel_rfl) (by kernel_rfl) (by kernel_rfl) .u64 (by kernel_rfl) h hz rfl
section
variable {W : World} {L : List Blk}
theorem xf_ld64 {b i : Nat} {x : Int} (h : Cl W L b i (.int .u64 x)) : XF Try.prog W 42 #[.pointer (some ⟨b, i, none⟩)] L (fun v L' => v = .int .u64 x ∧ L' = L) := by
  refine xf_enter (args := [.pointer (some ⟨b, i, none⟩)]) Try.func42 rfl Try.ntmps42 rfl ?_
  focus
    refine xc_seq ?_
    refine xc_region ?_
    refine xo_rd (rd_assign rfl) rfl ?_
    refine xo_nil ?_
    refine xq_seq ?_
    refine xc_seq ?_
    refine xc_region ?_
    refine xo_rd (rd_move rfl) rfl ?_
    refine xo_rd (rd_nilCheck rfl) rfl ?_
    refine xo_rd (rd_fieldAddr rfl) rfl ?_
  refine xo_rd (rd_xcell (b := b) (i := i) (vs := [_]) run_load64 rfl h) rfl ?_
  focus
    refine xo_rd (rd_assign rfl) rfl ?_
    refine xo_nil ?_
    refine xq_seq ?_
    refine xc_ret ?_
    exact xq_ret1 (.inl rfl) Try.results42 rfl (⟨rfl, rfl⟩)
theorem xf_ld32 {b i : Nat} {x : Int} (h : Cl W L b i (.int .u32 x)) : XF Try.prog W 43 #[.pointer (some ⟨b, i, none⟩)] L (fun v L' => v = .int .u32 x ∧ L' = L) := by
  refine xf_enter (args := [.pointer (some ⟨b, i, none⟩)]) Try.func43 rfl Try.ntmps43 rfl ?_
  focus
    refine xc_seq ?_
    refine xc_region ?_
    refine xo_rd (rd_assign rfl) rfl ?_
    refine xo_nil ?_
    refine xq_seq ?_
    refine xc_seq ?_
    refine xc_region ?_
    refine xo_rd (rd_move rfl) rfl ?_
    refine xo_rd (rd_nilCheck rfl) rfl ?_
    refine xo_rd (rd_fieldAddr rfl) rfl ?_
  refine xo_rd (rd_xcell (b := b) (i := i) (vs := [_]) run_load32 rfl h) rfl ?_
  focus
    refine xo_rd (rd_assign rfl) rfl ?_
    refine xo_nil ?_
    refine xq_seq ?_
    refine xc_ret ?_
    exact xq_ret1 (.inl rfl) Try.results43 rfl (⟨rfl, rfl⟩)
theorem xf_st64 {b i T : Nat} {cs : List Value} {u : Value} (x : Int) (hi : cs[i]? = some u) : XF Try.prog W 41 #[.pointer (some ⟨b, i, none⟩), .int .u64 x] ((b, .cells cs.toArray T (0, 0)) :: L) (fun v L' => v = .tuple #[] ∧ L' = (b, .cells (cs.set i (.int .u64 x)).toArray T (0, 0)) :: L) := by
  refine xf_enter (args := [.pointer (some ⟨b, i, none⟩), .int .u64 x]) Try.func41 rfl Try.ntmps41 rfl ?_
  focus
    refine xc_region ?_
    refine xo_rd (rd_move rfl) rfl ?_
    refine xo_rd (rd_nilCheck rfl) rfl ?_
    refine xo_rd (rd_fieldAddr rfl) rfl ?_
    refine xo_rd (rd_move rfl) rfl ?_
  refine xo_ef rfl (ef_xcell [] _ (b := b) (i := i) (vs := [_, _]) run_store64 rfl rfl hi ?_)
  focus
    refine xo_nil ?_
    exact xq_ret0 (.inr rfl) Try.results41 (⟨rfl, rfl⟩)
theorem xf_st32 {b i T : Nat} {cs : List Value} {u : Value} (x : Int) (hi : cs[i]? = some u) : XF Try.prog W 40 #[.pointer (some ⟨b, i, none⟩), .int .u32 x] ((b, .cells cs.toArray T (0, 0)) :: L) (fun v L' => v = .tuple #[] ∧ L' = (b, .cells (cs.set i (.int .u32 x)).toArray T (0, 0)) :: L) := by
  refine xf_enter (args := [.pointer (some ⟨b, i, none⟩), .int .u32 x]) Try.func40 rfl Try.ntmps40 rfl ?_
  focus
    refine xc_region ?_
    refine xo_rd (rd_move rfl) rfl ?_
    refine xo_rd (rd_nilCheck rfl) rfl ?_
    refine xo_rd (rd_fieldAddr rfl) rfl ?_
    refine xo_rd (rd_move rfl) rfl ?_
  refine xo_ef rfl (ef_xcell [] _ (b := b) (i := i) (vs := [_, _]) run_store32 rfl rfl hi ?_)
  focus
    refine xo_nil ?_
    exact xq_ret0 (.inr rfl) Try.results40 (⟨rfl, rfl⟩)
theorem xf_add64 {b i T : Nat} {cs : List Value} {x : Int} (y : Int) (hi : cs[i]? = some (.int .u64 x)) : XF Try.prog W 39 #[.pointer (some ⟨b, i, none⟩), .int .u64 y] ((b, .cells cs.toArray T (0, 0)) :: L) (fun v L' => v = .int .u64 (IntKind.u64.wrap (x + y)) ∧ L' = (b, .cells (cs.set i (.int .u64 (IntKind.u64.wrap (x + y)))).toArray T (0, 0)) :: L) := by
  refine xf_enter (args := [.pointer (some ⟨b, i, none⟩), .int .u64 y]) Try.func39 rfl Try.ntmps39 rfl ?_
  focus
    refine xc_seq ?_
    refine xc_region ?_
    refine xo_rd (rd_assign rfl) rfl ?_
    refine xo_nil ?_
    refine xq_seq ?_
    refine xc_seq ?_
    refine xc_region ?_
    refine xo_rd (rd_move rfl) rfl ?_
    refine xo_rd (rd_nilCheck rfl) rfl ?_
    refine xo_rd (rd_fieldAddr rfl) rfl ?_
    refine xo_rd (rd_move rfl) rfl ?_
  refine xo_ef rfl (ef_xcell [] _ (b := b) (i := i) (vs := [_, _]) run_add64 rfl rfl hi ?_)
  focus
    refine xo_rd (rd_assign rfl) rfl ?_
    refine xo_nil ?_
    refine xq_seq ?_
    refine xc_ret ?_
    exact xq_ret1 (.inl rfl) Try.results39 rfl (⟨rfl, rfl⟩)
end
end Go.Proofs.Ytogilblilljpmaa.X
/-
  The report layer's clocks, units and ticks, by walks of my own.
-/
namespace Go.Proofs.Ytogilblilljpmaa.X
open Go Go.RowKit
set_option linter.unusedVariables false
set_option linter.unusedSimpArgs false
def ntpF (n : Int) : Int := n / 1000 % 4294967296 * 4294967296 + n % 1000 * 4294967296 / 1000
def midF (n : Int) : Int := n / 65536 % 4294967296
def unitsF (n : Int) : Int := if 65536 ≤ n / 1000 then 4294967295 else n * 65536 / 1000
def sinceF (a b : Int) : Int := if a < b then b - a else 0
theorem ntpF_range {n : Int} (h : U8 n) : U8 (ntpF n) := by obtain ⟨h0, h1⟩ := h; unfold ntpF; exact ⟨by omega, by omega⟩
theorem unitsF_range {n : Int} (h : U8 n) : U4 (unitsF n) := by obtain ⟨h0, h1⟩ := h; unfold unitsF; constructor <;> split <;> omega
theorem midF_range (n : Int) : U4 (midF n) := by unfold midF; exact ⟨by omega, by omega⟩
theorem sinceF_range {a b : Int} (ha : U8 a) (hb : U8 b) : U8 (sinceF a b) := by
  obtain ⟨a1, a2⟩ := ha; obtain ⟨b1, b2⟩ := hb
  unfold sinceF U8; split <;> omega
section
variable {W : World} {L : List Blk}
theorem xf_ntp (n : Int) (h : U8 n) : XF Try.prog W 8 #[.int .u64 n] L (fun v L' => v = .int .u64 (ntpF n) ∧ L' = L) := by
  obtain ⟨h0, h1⟩ := h
  refine xf_enter (args := [.int .u64 n]) Try.func8 rfl Try.ntmps8 rfl ?_
  focus
    refine xc_seq ?_
    refine xc_region ?_
    refine xo_rd (rd_assign rfl) rfl ?_
    refine xo_nil ?_
    refine xq_seq ?_
    refine xc_seq ?_
    refine xc_region ?_
    refine xo_rd (rd_move rfl) rfl ?_
    refine xo_rd (rd_quon rfl rfl (by omega) (by omega) (by omega) (by omega)) rfl ?_
    refine xo_rd (rd_shl rfl rfl (by decide) (by decide)) rfl ?_
    refine xo_rd (rd_move rfl) rfl ?_
    refine xo_rd (rd_remn rfl rfl (by omega) (by omega)) rfl ?_
    refine xo_rd (rd_shl rfl rfl (by decide) (by decide)) rfl ?_
    refine xo_rd (rd_quo rfl rfl (by decide)) rfl ?_
    refine xo_rd (rd_or rfl rfl) rfl ?_
    refine xo_rd (rd_assign rfl) rfl ?_
    refine xo_nil ?_
    refine xq_seq ?_
    refine xc_ret ?_
  refine xq_ret1 (.inl rfl) Try.results8 rfl ⟨?_, rfl⟩
  have e32 : (2 : Int) ^ Int.toNat 32 = 4294967296 := by decide +kernel
  simp only [e32, wrap_u64]
  have e1 : n / 1000 * 4294967296 % 18446744073709551616 = n / 1000 % 4294967296 * 4294967296 := by omega
  have e2 : n % 1000 * 4294967296 % 18446744073709551616 = n % 1000 * 4294967296 := by omega
  congr 1
  first
  | (rw [e1, e2, Int.tdiv_eq_ediv_of_nonneg (by omega)]; rw [show n % 1000 * 4294967296 / 1000 % 18446744073709551616 = n % 1000 * 4294967296 / 1000 by omega, or64_32 _ _ (by omega) (by omega) (by omega) (by omega)]; rfl)
  | (rw [e1, e2, or64_32 _ _ (by omega) (by omega) (by omega) (by omega)]; rfl)
theorem xf_rntp (n : Int) (h : U8 n) : XF Try.prog W 9 #[.int .u64 n] L (fun v L' => v = .int .u64 (ntpF n) ∧ L' = L) := by
  obtain ⟨h0, h1⟩ := h
  refine xf_enter (args := [.int .u64 n]) Try.func9 rfl Try.ntmps9 rfl ?_
  focus
    refine xc_seq ?_
    refine xc_region ?_
    refine xo_rd (rd_assign rfl) rfl ?_
    refine xo_nil ?_
    refine xq_seq ?_
    refine xc_seq ?_
    refine xc_region ?_
    refine xo_rd (rd_move rfl) rfl ?_
    refine xo_rd (rd_quon rfl rfl (by omega) (by omega) (by omega) (by omega)) rfl ?_
    refine xo_rd (rd_move rfl) rfl ?_
    refine xo_rd (rd_remn rfl rfl (by omega) (by omega)) rfl ?_
    refine xo_rd (rd_assign rfl) rfl ?_
    refine xo_rd (rd_assign rfl) rfl ?_
    refine xo_nil ?_
    refine xq_seq ?_
    refine xc_seq ?_
    refine xc_region ?_
    refine xo_rd (rd_move rfl) rfl ?_
    refine xo_rd (rd_mul rfl rfl) rfl ?_
    refine xo_rd (rd_move rfl) rfl ?_
    refine xo_rd (rd_muln rfl rfl (by omega) (by omega)) rfl ?_
    refine xo_rd (rd_quon rfl rfl (by omega) (by omega) (by omega) (by omega)) rfl ?_
    refine xo_rd (rd_add rfl rfl) rfl ?_
    refine xo_rd (rd_assign rfl) rfl ?_
    refine xo_nil ?_
    refine xq_seq ?_
    refine xc_ret ?_
  refine xq_ret1 (.inl rfl) Try.results9 rfl ⟨?_, rfl⟩
  unfold ntpF
  congr 1
  simp only [wrap_u64]
  omega
theorem xf_middle (n : Int) (h : U8 n) : XF Try.prog W 10 #[.int .u64 n] L (fun v L' => v = .int .u32 (midF n) ∧ L' = L) := by
  obtain ⟨h0, h1⟩ := h
  refine xf_enter (args := [.int .u64 n]) Try.func10 rfl Try.ntmps10 rfl ?_
  focus
    refine xc_seq ?_
    refine xc_region ?_
    refine xo_rd (rd_assign rfl) rfl ?_
    refine xo_nil ?_
    refine xq_seq ?_
    refine xc_seq ?_
    refine xc_region ?_
    refine xo_rd (rd_move rfl) rfl ?_
    refine xo_rd (rd_shr rfl rfl (by decide) (by decide)) rfl ?_
    refine xo_rd (rd_conv rfl) rfl ?_
    refine xo_rd (rd_assign rfl) rfl ?_
    refine xo_nil ?_
    refine xq_seq ?_
    refine xc_ret ?_
  refine xq_ret1 (.inl rfl) Try.results10 rfl ⟨?_, rfl⟩
  have e16 : (2 : Int) ^ Int.toNat 16 = 65536 := by decide +kernel
  unfold midF
  simp only [e16, IntKind.wrap_u32]
theorem xf_rmiddle (n : Int) (h : U8 n) : XF Try.prog W 11 #[.int .u64 n] L (fun v L' => v = .int .u32 (midF n) ∧ L' = L) := by
  obtain ⟨h0, h1⟩ := h
  refine xf_enter (args := [.int .u64 n]) Try.func11 rfl Try.ntmps11 rfl ?_
  focus
    refine xc_seq ?_
    refine xc_region ?_
    refine xo_rd (rd_assign rfl) rfl ?_
    refine xo_nil ?_
    refine xq_seq ?_
    refine xc_seq ?_
    refine xc_region ?_
    refine xo_rd (rd_move rfl) rfl ?_
    refine xo_rd (rd_quon rfl rfl (by omega) (by omega) (by omega) (by omega)) rfl ?_
    refine xo_rd (rd_remn rfl rfl (by omega) (by omega)) rfl ?_
    refine xo_rd (rd_convn rfl (by omega) (by omega)) rfl ?_
    refine xo_rd (rd_assign rfl) rfl ?_
    refine xo_nil ?_
    refine xq_seq ?_
    refine xc_ret ?_
  refine xq_ret1 (.inl rfl) Try.results11 rfl ⟨?_, rfl⟩
  unfold midF
  congr 1
theorem xf_units (n : Int) (h : U8 n) : XF Try.prog W 12 #[.int .u64 n] L (fun v L' => v = .int .u32 (unitsF n) ∧ L' = L) := by
  obtain ⟨h0, h1⟩ := h
  refine xf_enter (args := [.int .u64 n]) Try.func12 rfl Try.ntmps12 rfl ?_
  focus
    refine xc_seq ?_
    refine xc_region ?_
    refine xo_rd (rd_assign rfl) rfl ?_
    refine xo_nil ?_
    refine xq_seq ?_
    refine xc_seq ?_
    refine xc_seq ?_
    refine xc_region ?_
    refine xo_rd (rd_move rfl) rfl ?_
    refine xo_rd (rd_quon rfl rfl (by omega) (by omega) (by omega) (by omega)) rfl ?_
    refine xo_rd (rd_geq rfl rfl) rfl ?_
    refine xo_nil ?_
    refine xq_seq ?_
    refine xc_dec rfl (fun h1 => ?_) (fun h1 => ?_)
    refine xc_seq ?_
    refine xc_region ?_
    refine xo_rd (rd_assign rfl) rfl ?_
    refine xo_nil ?_
    refine xq_seq ?_
    refine xc_ret ?_
    refine xq_then_ret ?_
    rotate_left
    refine xc_skip ?_
    refine xq_seq ?_
    refine xc_seq ?_
    refine xc_region ?_
    refine xo_rd (rd_move rfl) rfl ?_
    refine xo_rd (rd_shl rfl rfl (by decide) (by decide)) rfl ?_
    refine xo_rd (rd_quo rfl rfl (by decide)) rfl ?_
    refine xo_rd (rd_conv rfl) rfl ?_
    refine xo_rd (rd_assign rfl) rfl ?_
    refine xo_nil ?_
    refine xq_seq ?_
    refine xc_ret ?_
    rotate_left
  · refine xq_ret1 (.inl rfl) Try.results12 rfl ⟨?_, rfl⟩
    unfold unitsF; rw [if_pos (by omega)]
  · refine xq_ret1 (.inl rfl) Try.results12 rfl ⟨?_, rfl⟩
    unfold unitsF; rw [if_neg (by omega)]
    have e16 : (2 : Int) ^ Int.toNat 16 = 65536 := by decide +kernel
    simp only [e16, wrap_u64, IntKind.wrap_u32]
    congr 1
    have e1 : n * 65536 % 18446744073709551616 = n * 65536 := by omega
    rw [e1]
    first | omega | (rw [Int.tdiv_eq_ediv_of_nonneg (by omega)]; omega)
theorem xf_runits (n : Int) (h : U8 n) : XF Try.prog W 13 #[.int .u64 n] L (fun v L' => v = .int .u32 (unitsF n) ∧ L' = L) := by
  obtain ⟨h0, h1⟩ := h
  refine xf_enter (args := [.int .u64 n]) Try.func13 rfl Try.ntmps13 rfl ?_
  focus
    refine xc_seq ?_
    refine xc_region ?_
    refine xo_rd (rd_assign rfl) rfl ?_
    refine xo_nil ?_
    refine xq_seq ?_
    refine xc_seq ?_
    refine xc_seq ?_
    refine xc_region ?_
    refine xo_rd (rd_move rfl) rfl ?_
    refine xo_rd (rd_quon rfl rfl (by omega) (by omega) (by omega) (by omega)) rfl ?_
    refine xo_rd (rd_geq rfl rfl) rfl ?_
    refine xo_nil ?_
    refine xq_seq ?_
    refine xc_dec rfl (fun h1 => ?_) (fun h1 => ?_)
    refine xc_seq ?_
    refine xc_region ?_
    refine xo_rd (rd_assign rfl) rfl ?_
    refine xo_nil ?_
    refine xq_seq ?_
    refine xc_ret ?_
    refine xq_then_ret ?_
    rotate_left
    refine xc_skip ?_
    refine xq_seq ?_
    refine xc_seq ?_
    refine xc_region ?_
    refine xo_rd (rd_move rfl) rfl ?_
    refine xo_rd (rd_muln rfl rfl (by omega) (by omega)) rfl ?_
    refine xo_rd (rd_quon rfl rfl (by omega) (by omega) (by omega) (by omega)) rfl ?_
    refine xo_rd (rd_convn rfl (by omega) (by omega)) rfl ?_
    refine xo_rd (rd_assign rfl) rfl ?_
    refine xo_nil ?_
    refine xq_seq ?_
    refine xc_ret ?_
    rotate_left
  · refine xq_ret1 (.inl rfl) Try.results13 rfl ⟨?_, rfl⟩
    unfold unitsF; rw [if_pos (by omega)]
  · refine xq_ret1 (.inl rfl) Try.results13 rfl ⟨?_, rfl⟩
    unfold unitsF; rw [if_neg (by omega)]
theorem xf_since (a b : Int) (ha : U8 a) (hb : U8 b) : XF Try.prog W 37 #[.int .u64 a, .int .u64 b] L (fun v L' => v = .int .u64 (sinceF a b) ∧ L' = L) := by
  obtain ⟨a0, a1⟩ := ha; obtain ⟨b0, b1⟩ := hb
  refine xf_enter (args := [.int .u64 a, .int .u64 b]) Try.func37 rfl Try.ntmps37 rfl ?_
  focus
    refine xc_seq ?_
    refine xc_region ?_
    refine xo_rd (rd_assign rfl) rfl ?_
    refine xo_nil ?_
    refine xq_seq ?_
    refine xc_seq ?_
    refine xc_region ?_
    refine xo_rd (rd_move rfl) rfl ?_
    refine xo_rd (rd_move rfl) rfl ?_
    refine xo_rd (rd_max rfl rfl) rfl ?_
    refine xo_rd (rd_move rfl) rfl ?_
    refine xo_rd (rd_subn rfl rfl (by omega) (by omega)) rfl ?_
    refine xo_rd (rd_assign rfl) rfl ?_
    refine xo_nil ?_
    refine xq_seq ?_
    refine xc_ret ?_
  refine xq_ret1 (.inl rfl) Try.results37 rfl ⟨?_, rfl⟩
  unfold sinceF
  congr 1; split <;> omega
theorem xf_rsince (a b : Int) (ha : U8 a) (hb : U8 b) : XF Try.prog W 38 #[.int .u64 a, .int .u64 b] L (fun v L' => v = .int .u64 (sinceF a b) ∧ L' = L) := by
  obtain ⟨a0, a1⟩ := ha; obtain ⟨b0, b1⟩ := hb
  refine xf_enter (args := [.int .u64 a, .int .u64 b]) Try.func38 rfl Try.ntmps38 rfl ?_
  focus
    refine xc_seq ?_
    refine xc_region ?_
    refine xo_rd (rd_assign rfl) rfl ?_
    refine xo_nil ?_
    refine xq_seq ?_
    refine xc_seq ?_
    refine xc_seq ?_
    refine xc_region ?_
    refine xo_rd (rd_move rfl) rfl ?_
    refine xo_rd (rd_move rfl) rfl ?_
    refine xo_rd (rd_lss rfl rfl) rfl ?_
    refine xo_nil ?_
    refine xq_seq ?_
    refine xc_dec rfl (fun h1 => ?_) (fun h1 => ?_)
    refine xc_seq ?_
    refine xc_region ?_
    refine xo_rd (rd_assign rfl) rfl ?_
    refine xo_nil ?_
    refine xq_seq ?_
    refine xc_ret ?_
    refine xq_then_ret ?_
    rotate_left
    refine xc_skip ?_
    refine xq_seq ?_
    refine xc_seq ?_
    refine xc_region ?_
    refine xo_rd (rd_move rfl) rfl ?_
    refine xo_rd (rd_move rfl) rfl ?_
    refine xo_rd (rd_subn rfl rfl (by omega) (by omega)) rfl ?_
    refine xo_rd (rd_assign rfl) rfl ?_
    refine xo_nil ?_
    refine xq_seq ?_
    refine xc_ret ?_
    rotate_left
  · refine xq_ret1 (.inl rfl) Try.results38 rfl ⟨?_, rfl⟩
    unfold sinceF
    congr 1; split <;> omega
  · refine xq_ret1 (.inl rfl) Try.results38 rfl ⟨?_, rfl⟩
    unfold sinceF
    congr 1; split <;> omega
theorem xf_works : XF Try.prog W 14 #[] L (fun v L' => v = .bool true ∧ L' = L) := by
  refine xf_enter (args := []) Try.func14 rfl Try.ntmps14 rfl ?_
  focus
    refine xc_seq ?_
    refine xc_region ?_
    refine xo_rd (rd_assign rfl) rfl ?_
    refine xo_nil ?_
    refine xq_seq ?_
    refine xc_seq ?_
    refine xc_region ?_
    refine xo_ef rfl (ef_call rfl (XF.mono (xf_ntp _ ⟨by decide, by decide⟩) ?_))
    rintro v L' ⟨rfl, rfl⟩
    refine xo_rd (rd_assign rfl) rfl ?_
    refine xo_nil ?_
    refine xq_seq ?_
    refine xc_seq ?_
    refine xc_region ?_
    refine xo_rd (rd_move rfl) rfl ?_
    refine xo_rd (rd_eql rfl rfl) rfl ?_
    refine xo_rd (rd_move rfl) rfl ?_
    refine xo_grd rfl rfl (rd_move rfl) rfl ?_
    refine xo_gef rfl rfl rfl (ef_call rfl (XF.mono (xf_middle _ ⟨by decide +kernel, by decide +kernel⟩) ?_))
    rintro v L' ⟨rfl, rfl⟩
    refine xo_grd rfl rfl (rd_eql rfl rfl) rfl ?_
    refine xo_rd (rd_pickt rfl rfl) rfl ?_
    refine xo_rd (rd_move rfl) rfl ?_
    refine xo_gef rfl rfl rfl (ef_call rfl (XF.mono (xf_units _ ⟨by decide, by decide⟩) ?_))
    rintro v L' ⟨rfl, rfl⟩
    refine xo_grd rfl rfl (rd_eql rfl rfl) rfl ?_
    refine xo_rd (rd_pickt rfl rfl) rfl ?_
    refine xo_rd (rd_move rfl) rfl ?_
    refine xo_gef rfl rfl rfl (ef_call rfl (XF.mono (xf_units _ ⟨by decide, by decide⟩) ?_))
    rintro v L' ⟨rfl, rfl⟩
    refine xo_grd rfl rfl (rd_eql rfl rfl) rfl ?_
    refine xo_rd (rd_pickt rfl rfl) rfl ?_
    refine xo_rd (rd_move rfl) rfl ?_
    refine xo_gef rfl rfl rfl (ef_call rfl (XF.mono (xf_units _ ⟨by decide, by decide⟩) ?_))
    rintro v L' ⟨rfl, rfl⟩
    refine xo_grd rfl rfl (rd_eql rfl rfl) rfl ?_
    refine xo_rd (rd_pickt rfl rfl) rfl ?_
    refine xo_rd (rd_assign rfl) rfl ?_
    refine xo_nil ?_
    refine xq_seq ?_
    refine xc_ret ?_
    exact xq_ret1 (.inl rfl) Try.results14 rfl (⟨rfl, rfl⟩)
end
end Go.Proofs.Ytogilblilljpmaa.X
/-
  The report layer's outlet, by walks of my own.
-/
namespace Go.Proofs.Ytogilblilljpmaa.X
open Go Go.RowKit
set_option linter.unusedVariables false
set_option linter.unusedSimpArgs false
structure Oo where
  ss : Int
  pk : Int
  bt : Int
  tm : Int
  ti : Int
def Oo.enc (o : Oo) : List Value := [.int .u32 o.ss, .int .u64 o.pk, .int .u64 o.bt, .int .u32 o.tm, .int .u64 o.ti]
structure Oo.Rg (o : Oo) : Prop where
  ss : U4 o.ss
  pk : U8 o.pk
  bt : U8 o.bt
  tm : U4 o.tm
  ti : U8 o.ti
def Oo.new (ss : Int) : Oo := ⟨ss, 0, 0, 0, 0⟩
def Oo.sent (o : Oo) (len tm now : Int) : Oo := ⟨o.ss, (o.pk + 1) % 18446744073709551616, (o.bt + len) % 18446744073709551616, tm, now⟩
def Oo.blk (o : Oo) (b : Nat) : Blk := (b, .cells o.enc.toArray 104 (0, 0))
theorem u8_0 : U8 0 := ⟨by decide, by decide⟩
theorem u4_0 : U4 0 := ⟨by decide, by decide⟩
theorem Oo.new_rg {ss : Int} (h : U4 ss) : (Oo.new ss).Rg := ⟨h, u8_0, u8_0, u4_0, u8_0⟩
theorem Oo.sent_rg {o : Oo} {len tm now : Int} (h : o.Rg) (ht : U4 tm) (hn : U8 now) : (o.sent len tm now).Rg := ⟨h.ss, ⟨by unfold Oo.sent; dsimp only; omega, by unfold Oo.sent; dsimp only; omega⟩, ⟨by unfold Oo.sent; dsimp only; omega, by unfold Oo.sent; dsimp only; omega⟩, ht, hn⟩
def rtF (o : Oo) (now : Int) : Int := if 0 < o.pk then (o.tm + sinceF o.ti now * 90 % 4294967296) % 4294967296 else 0
def sndF (o : Oo) (now : Int) (xs : List Bk) : Sn := ⟨o.ss, ntpF now, rtF o now, o.pk % 4294967296, o.bt % 4294967296, xs⟩
theorem sndF_rg {o : Oo} {now : Int} {xs : List Bk} (ho : o.Rg) (hn : U8 now) (hx : ∀ x, x ∈ xs → x.Rg) : (sndF o now xs).Rg := ⟨ho.ss, ntpF_range hn, by unfold sndF rtF U4; dsimp only; constructor <;> split <;> omega, ⟨by unfold sndF; dsimp only; omega, by unfold sndF; dsimp only; omega⟩, ⟨by unfold sndF; dsimp only; omega, by unfold sndF; dsimp only; omega⟩, hx⟩
section
variable {W : World} {L : List Blk}
theorem xf_newOutlet (ss : Int) : XF Try.prog W 24 #[.int .u32 ss] L (fun v L' => ∃ b, v = .pointer (some ⟨b, 0, none⟩) ∧ L' = (Oo.new ss).blk b :: L) := by
  refine xf_enter (args := [.int .u32 ss]) Try.func24 rfl Try.ntmps24 rfl ?_
  focus
    refine xc_seq ?_
    refine xc_region ?_
    refine xo_rd (rd_assign rfl) rfl ?_
    refine xo_nil ?_
    refine xq_seq ?_
    refine xc_seq ?_
    refine xc_region ?_
    refine xo_rd (rd_move rfl) rfl ?_
    refine xo_rd (rd_build rfl rfl rfl) rfl ?_
    refine xo_ef rfl (ef_box rfl fun r5 => ?_)
    refine xo_rd (rd_assign rfl) rfl ?_
    refine xo_nil ?_
    refine xq_seq ?_
    refine xc_ret ?_
  exact xq_ret1 (.inl rfl) Try.results24 rfl ⟨_, rfl, rfl⟩
theorem xf_sent0 (v0 v1 v2 v3 v4 v5 v6 v7 v8 v9 v10 : Value) (now : Int) : XF Try.prog W 20 #[.pointer none, .agg #[v0, v1, v2, v3, v4, v5, v6, v7, v8, v9, v10], .int .u64 now] L (fun v L' => v = .tuple #[] ∧ L' = L) := by
  refine xf_enter (args := [.pointer none, .agg #[v0, v1, v2, v3, v4, v5, v6, v7, v8, v9, v10], .int .u64 now]) Try.func20 rfl Try.ntmps20 rfl ?_
  focus
    refine xc_seq ?_
    refine xc_region ?_
    refine xo_ef rfl (ef_box rfl fun r4 => ?_)
    refine xo_nil ?_
    refine xq_seq ?_
    refine xc_seq ?_
    refine xc_seq ?_
    refine xc_region ?_
    refine xo_rd (rd_move rfl) rfl ?_
    refine xo_rd (rd_eqnil rfl) rfl ?_
    refine xo_nil ?_
    refine xq_seq ?_
    refine xc_condt rfl ?_
    refine xc_ret ?_
    refine xq_then_ret ?_
    exact xq_tail (xq_ret0 (.inl rfl) Try.results20 (⟨rfl, rfl⟩))
theorem xf_sent (b : Nat) (o : Oo) (ho : o.Rg) (v0 v1 v2 v4 v5 v6 v7 v8 v10 : Value) (tm : Int) (p : Option Addr) (n c : Nat) (hn : n ≤ 1000000) (now : Int) :
    XF Try.prog W 20 #[.pointer (some ⟨b, 0, none⟩), .agg #[v0, v1, v2, .int .u32 tm, v4, v5, v6, v7, v8, .slice p n c, v10], .int .u64 now] (o.blk b :: L) (fun v L' => v = .tuple #[] ∧ L' = (o.sent n tm now).blk b :: L) := by
  refine xf_enter (args := [.pointer (some ⟨b, 0, none⟩), .agg #[v0, v1, v2, .int .u32 tm, v4, v5, v6, v7, v8, .slice p n c, v10], .int .u64 now]) Try.func20 rfl Try.ntmps20 rfl ?_
  obtain ⟨ss, pk, bt, otm, ti⟩ := o
  obtain ⟨⟨s0, s1⟩, ⟨k0, k1⟩, ⟨b0, b1⟩, ⟨m0, m1⟩, ⟨t0, t1⟩⟩ := ho
  dsimp only [Oo.blk, Oo.enc] at *
  focus
    refine xc_seq ?_
    refine xc_region ?_
    refine xo_ef rfl (ef_box rfl fun r4 => ?_)
    refine xo_nil ?_
    refine xq_seq ?_
    refine xc_seq ?_
    refine xc_seq ?_
    refine xc_region ?_
    refine xo_rd (rd_move rfl) rfl ?_
    refine xo_rd (rd_eqnil rfl) rfl ?_
    refine xo_nil ?_
    refine xq_seq ?_
    refine xc_condf rfl ?_
    refine xc_skip ?_
    refine xq_seq ?_
    refine xc_seq ?_
    refine xc_region ?_
    refine xo_rd (rd_move rfl) rfl ?_
    refine xo_rd (rd_nilCheck rfl) rfl ?_
    refine xo_rd (rd_fieldAddr rfl) rfl ?_
    refine xo_ef rfl (ef_call rfl (XF.mono (XF.mid [_] (xf_add64 _ rfl)) ?_))
    rintro v L' ⟨rfl, rfl⟩
    refine xo_mid [_] ?_
    refine xo_nil ?_
    refine xq_seq ?_
    refine xc_seq ?_
    refine xc_drawM [0, 1, 2, 0, 8, 16, 32, 68] [0, 1, 2, 0, 8, 16, 32, 68] ([(r4, .cells #[v0, v1, v2, .int .u32 tm, v4, v5, v6, v7, v8, .slice p n c, v10] 51 (0, 0))]) (by kernel_rfl) (by kernel_rfl) (by kernel_rfl) ?_
    refine xm_take 0 (m' := 1) rfl (by kernel_rfl) (by first | exact Sb.refl | exact Sb.nil | (repeat (first | exact Sb.nil | exact Sb.refl | exact Sb.app0 | apply Sb.keep | apply Sb.keepApp | apply Sb.cons | apply Sb.app))) (rd_move rfl) rfl (by kernel_rfl) ?_
    refine xm_take 1 (m' := 3) rfl (by kernel_rfl) (by first | exact Sb.refl | exact Sb.nil | (repeat (first | exact Sb.nil | exact Sb.refl | exact Sb.app0 | apply Sb.keep | apply Sb.keepApp | apply Sb.cons | apply Sb.app))) (rd_nilCheck rfl) rfl (by kernel_rfl) ?_
    refine xm_take 2 (m' := 7) rfl (by kernel_rfl) (by first | exact Sb.refl | exact Sb.nil | (repeat (first | exact Sb.nil | exact Sb.refl | exact Sb.app0 | apply Sb.keep | apply Sb.keepApp | apply Sb.cons | apply Sb.app))) (rd_fieldAddr rfl) rfl (by kernel_rfl) ?_
    refine xm_take 3 (m' := 15) rfl (by kernel_rfl) (by first | exact Sb.refl | exact Sb.nil | (repeat (first | exact Sb.nil | exact Sb.refl | exact Sb.app0 | apply Sb.keep | apply Sb.keepApp | apply Sb.cons | apply Sb.app))) (rd_fieldAddr rfl) rfl (by kernel_rfl) ?_
    refine xm_take 4 (m' := 31) rfl (by kernel_rfl) (by first | exact Sb.refl | exact Sb.nil | (repeat (first | exact Sb.nil | exact Sb.refl | exact Sb.app0 | apply Sb.keep | apply Sb.keepApp | apply Sb.cons | apply Sb.app))) (rd_load1 rfl (Cl.o0 rfl)) rfl (by kernel_rfl) ?_
    refine xm_take 5 (m' := 63) rfl (by kernel_rfl) (by first | exact Sb.refl | exact Sb.nil | (repeat (first | exact Sb.nil | exact Sb.refl | exact Sb.app0 | apply Sb.keep | apply Sb.keepApp | apply Sb.cons | apply Sb.app))) (rd_len rfl) rfl (by kernel_rfl) ?_
    refine xm_take 6 (m' := 127) rfl (by kernel_rfl) (by first | exact Sb.refl | exact Sb.nil | (repeat (first | exact Sb.nil | exact Sb.refl | exact Sb.app0 | apply Sb.keep | apply Sb.keepApp | apply Sb.cons | apply Sb.app))) (rd_convn rfl (by omega) (by omega)) rfl (by kernel_rfl) ?_
    refine xm_one 7 (m' := 255) rfl (by kernel_rfl) rfl (by kernel_rfl) (ef_call rfl (XF.mono (XF.mid [_] (xf_add64 _ rfl)) ?_))
    rintro v L' ⟨rfl, rfl⟩
    refine xmx_mid [_] ?_
    refine ⟨(by first | exact Sb.refl | exact Sb.nil | (repeat (first | exact Sb.nil | exact Sb.refl | exact Sb.app0 | apply Sb.keep | apply Sb.keepApp | apply Sb.cons | apply Sb.app))), ?_⟩
    refine xm_done (by kernel_rfl) ?_
    refine xq_seq ?_
    refine xc_seq ?_
    refine xc_drawM [0, 1, 2, 0, 8, 20] [0, 1, 2, 0, 8, 20] ([(r4, .cells #[v0, v1, v2, .int .u32 tm, v4, v5, v6, v7, v8, .slice p n c, v10] 51 (0, 0))]) (by kernel_rfl) (by kernel_rfl) (by kernel_rfl) ?_
    refine xm_take 0 (m' := 1) rfl (by kernel_rfl) (by first | exact Sb.refl | exact Sb.nil | (repeat (first | exact Sb.nil | exact Sb.refl | exact Sb.app0 | apply Sb.keep | apply Sb.keepApp | apply Sb.cons | apply Sb.app))) (rd_move rfl) rfl (by kernel_rfl) ?_
    refine xm_take 1 (m' := 3) rfl (by kernel_rfl) (by first | exact Sb.refl | exact Sb.nil | (repeat (first | exact Sb.nil | exact Sb.refl | exact Sb.app0 | apply Sb.keep | apply Sb.keepApp | apply Sb.cons | apply Sb.app))) (rd_nilCheck rfl) rfl (by kernel_rfl) ?_
    refine xm_take 2 (m' := 7) rfl (by kernel_rfl) (by first | exact Sb.refl | exact Sb.nil | (repeat (first | exact Sb.nil | exact Sb.refl | exact Sb.app0 | apply Sb.keep | apply Sb.keepApp | apply Sb.cons | apply Sb.app))) (rd_fieldAddr rfl) rfl (by kernel_rfl) ?_
    refine xm_take 3 (m' := 15) rfl (by kernel_rfl) (by first | exact Sb.refl | exact Sb.nil | (repeat (first | exact Sb.nil | exact Sb.refl | exact Sb.app0 | apply Sb.keep | apply Sb.keepApp | apply Sb.cons | apply Sb.app))) (rd_fieldAddr rfl) rfl (by kernel_rfl) ?_
    refine xm_take 4 (m' := 31) rfl (by kernel_rfl) (by first | exact Sb.refl | exact Sb.nil | (repeat (first | exact Sb.nil | exact Sb.refl | exact Sb.app0 | apply Sb.keep | apply Sb.keepApp | apply Sb.cons | apply Sb.app))) (rd_load1 rfl (Cl.o0 rfl)) rfl (by kernel_rfl) ?_
    refine xm_one 5 (m' := 63) rfl (by kernel_rfl) rfl (by kernel_rfl) (ef_call rfl (XF.mono (XF.mid [_] (xf_st32 _ rfl)) ?_))
    rintro v L' ⟨rfl, rfl⟩
    refine xmx_mid [_] ?_
    refine ⟨(by first | exact Sb.refl | exact Sb.nil | (repeat (first | exact Sb.nil | exact Sb.refl | exact Sb.app0 | apply Sb.keep | apply Sb.keepApp | apply Sb.cons | apply Sb.app))), ?_⟩
    refine xm_done (by kernel_rfl) ?_
    refine xq_seq ?_
    refine xc_region ?_
    refine xo_rd (rd_move rfl) rfl ?_
    refine xo_rd (rd_nilCheck rfl) rfl ?_
    refine xo_rd (rd_fieldAddr rfl) rfl ?_
    refine xo_rd (rd_move rfl) rfl ?_
    refine xo_ef rfl (ef_call rfl (XF.mono (XF.mid [_] (xf_st64 _ rfl)) ?_))
    rintro v L' ⟨rfl, rfl⟩
    refine xo_mid [_] ?_
    refine xo_nil ?_
    exact xq_tail (xq_ret0 (.inr rfl) Try.results20 (⟨rfl, rfl⟩))
theorem xf_totals0 : XF Try.prog W 21 #[.pointer none] L (fun v L' => v = .tuple #[.int .u64 0, .int .u64 0] ∧ L' = L) := by
  refine xf_enter (args := [.pointer none]) Try.func21 rfl Try.ntmps21 rfl ?_
  focus
    refine xc_seq ?_
    refine xc_region ?_
    refine xo_rd (rd_assign rfl) rfl ?_
    refine xo_rd (rd_assign rfl) rfl ?_
    refine xo_nil ?_
    refine xq_seq ?_
    refine xc_seq ?_
    refine xc_seq ?_
    refine xc_region ?_
    refine xo_rd (rd_move rfl) rfl ?_
    refine xo_rd (rd_eqnil rfl) rfl ?_
    refine xo_nil ?_
    refine xq_seq ?_
    refine xc_condt rfl ?_
    refine xc_seq ?_
    refine xc_region ?_
    refine xo_rd (rd_assign rfl) rfl ?_
    refine xo_rd (rd_assign rfl) rfl ?_
    refine xo_nil ?_
    refine xq_seq ?_
    refine xc_ret ?_
    refine xq_then_ret ?_
    exact xq_ret2 (.inl rfl) Try.results21 rfl rfl (⟨rfl, rfl⟩)
theorem xf_totals (b : Nat) (o : Oo) : XF Try.prog W 21 #[.pointer (some ⟨b, 0, none⟩)] (o.blk b :: L) (fun v L' => v = .tuple #[.int .u64 o.pk, .int .u64 o.bt] ∧ L' = o.blk b :: L) := by
  refine xf_enter (args := [.pointer (some ⟨b, 0, none⟩)]) Try.func21 rfl Try.ntmps21 rfl ?_
  dsimp only [Oo.blk, Oo.enc] at *
  focus
    refine xc_seq ?_
    refine xc_region ?_
    refine xo_rd (rd_assign rfl) rfl ?_
    refine xo_rd (rd_assign rfl) rfl ?_
    refine xo_nil ?_
    refine xq_seq ?_
    refine xc_seq ?_
    refine xc_seq ?_
    refine xc_region ?_
    refine xo_rd (rd_move rfl) rfl ?_
    refine xo_rd (rd_eqnil rfl) rfl ?_
    refine xo_nil ?_
    refine xq_seq ?_
    refine xc_condf rfl ?_
    refine xc_skip ?_
    refine xq_seq ?_
    refine xc_seq ?_
    refine xc_drawM [0, 1, 2, 4, 0, 16, 32, 72, 143, 511] [0, 1, 2, 4, 0, 16, 32, 72, 143, 511] [] (by kernel_rfl) (by kernel_rfl) (by kernel_rfl) ?_
    refine xm_take 0 (m' := 1) rfl (by kernel_rfl) (by first | exact Sb.refl | exact Sb.nil | (repeat (first | exact Sb.nil | exact Sb.refl | exact Sb.app0 | apply Sb.keep | apply Sb.keepApp | apply Sb.cons | apply Sb.app))) (rd_move rfl) rfl (by kernel_rfl) ?_
    refine xm_take 1 (m' := 3) rfl (by kernel_rfl) (by first | exact Sb.refl | exact Sb.nil | (repeat (first | exact Sb.nil | exact Sb.refl | exact Sb.app0 | apply Sb.keep | apply Sb.keepApp | apply Sb.cons | apply Sb.app))) (rd_nilCheck rfl) rfl (by kernel_rfl) ?_
    refine xm_take 2 (m' := 7) rfl (by kernel_rfl) (by first | exact Sb.refl | exact Sb.nil | (repeat (first | exact Sb.nil | exact Sb.refl | exact Sb.app0 | apply Sb.keep | apply Sb.keepApp | apply Sb.cons | apply Sb.app))) (rd_fieldAddr rfl) rfl (by kernel_rfl) ?_
    refine xm_take 4 (m' := 23) rfl (by kernel_rfl) (by first | exact Sb.refl | exact Sb.nil | (repeat (first | exact Sb.nil | exact Sb.refl | exact Sb.app0 | apply Sb.keep | apply Sb.keepApp | apply Sb.cons | apply Sb.app))) (rd_move rfl) rfl (by kernel_rfl) ?_
    refine xm_take 5 (m' := 55) rfl (by kernel_rfl) (by first | exact Sb.refl | exact Sb.nil | (repeat (first | exact Sb.nil | exact Sb.refl | exact Sb.app0 | apply Sb.keep | apply Sb.keepApp | apply Sb.cons | apply Sb.app))) (rd_nilCheck rfl) rfl (by kernel_rfl) ?_
    refine xm_take 6 (m' := 119) rfl (by kernel_rfl) (by first | exact Sb.refl | exact Sb.nil | (repeat (first | exact Sb.nil | exact Sb.refl | exact Sb.app0 | apply Sb.keep | apply Sb.keepApp | apply Sb.cons | apply Sb.app))) (rd_fieldAddr rfl) rfl (by kernel_rfl) ?_
    refine xm_one 3 (m' := 127) rfl (by kernel_rfl) rfl (by kernel_rfl) (ef_call rfl (XF.mono (xf_ld64 (Cl.o0 rfl)) ?_))
    rintro v L' ⟨rfl, rfl⟩
    refine ⟨(by first | exact Sb.refl | exact Sb.nil | (repeat (first | exact Sb.nil | exact Sb.refl | exact Sb.app0 | apply Sb.keep | apply Sb.keepApp | apply Sb.cons | apply Sb.app))), ?_⟩
    refine xm_one 7 (m' := 255) rfl (by kernel_rfl) rfl (by kernel_rfl) (ef_call rfl (XF.mono (xf_ld64 (Cl.o0 rfl)) ?_))
    rintro v L' ⟨rfl, rfl⟩
    refine ⟨(by first | exact Sb.refl | exact Sb.nil | (repeat (first | exact Sb.nil | exact Sb.refl | exact Sb.app0 | apply Sb.keep | apply Sb.keepApp | apply Sb.cons | apply Sb.app))), ?_⟩
    refine xm_take 8 (m' := 511) rfl (by kernel_rfl) (by first | exact Sb.refl | exact Sb.nil | (repeat (first | exact Sb.nil | exact Sb.refl | exact Sb.app0 | apply Sb.keep | apply Sb.keepApp | apply Sb.cons | apply Sb.app))) (rd_assign rfl) rfl (by kernel_rfl) ?_
    refine xm_take 9 (m' := 1023) rfl (by kernel_rfl) (by first | exact Sb.refl | exact Sb.nil | (repeat (first | exact Sb.nil | exact Sb.refl | exact Sb.app0 | apply Sb.keep | apply Sb.keepApp | apply Sb.cons | apply Sb.app))) (rd_assign rfl) rfl (by kernel_rfl) ?_
    refine xm_done (by kernel_rfl) ?_
    refine xq_seq ?_
    refine xc_ret ?_
    exact xq_ret2 (.inl rfl) Try.results21 rfl rfl (⟨rfl, rfl⟩)
theorem xf_oany0 : XF Try.prog W 25 #[.pointer none] L (fun v L' => v = .bool false ∧ L' = L) := by
  refine xf_enter (args := [.pointer none]) Try.func25 rfl Try.ntmps25 rfl ?_
  focus
    refine xc_seq ?_
    refine xc_region ?_
    refine xo_rd (rd_assign rfl) rfl ?_
    refine xo_nil ?_
    refine xq_seq ?_
    refine xc_seq ?_
    refine xc_region ?_
    refine xo_rd (rd_move rfl) rfl ?_
    refine xo_ef rfl (ef_call rfl (XF.mono (xf_totals0) ?_))
    rintro v L' ⟨rfl, rfl⟩
    refine xo_rd (rd_move rfl) rfl ?_
    refine xo_rd (rd_extract rfl rfl) rfl ?_
    refine xo_rd (rd_extract rfl rfl) rfl ?_
    refine xo_rd (rd_assign rfl) rfl ?_
    refine xo_rd (rd_assign rfl) rfl ?_
    refine xo_nil ?_
    refine xq_seq ?_
    refine xc_seq ?_
    refine xc_region ?_
    refine xo_rd (rd_move rfl) rfl ?_
    refine xo_rd (rd_gtr rfl rfl) rfl ?_
    refine xo_rd (rd_assign rfl) rfl ?_
    refine xo_nil ?_
    refine xq_seq ?_
    refine xc_ret ?_
    exact xq_ret1 (.inl rfl) Try.results25 rfl (⟨rfl, rfl⟩)
theorem xf_oany (b : Nat) (o : Oo) : XF Try.prog W 25 #[.pointer (some ⟨b, 0, none⟩)] (o.blk b :: L) (fun v L' => v = .bool (decide (0 < o.pk)) ∧ L' = o.blk b :: L) := by
  refine xf_enter (args := [.pointer (some ⟨b, 0, none⟩)]) Try.func25 rfl Try.ntmps25 rfl ?_
  focus
    refine xc_seq ?_
    refine xc_region ?_
    refine xo_rd (rd_assign rfl) rfl ?_
    refine xo_nil ?_
    refine xq_seq ?_
    refine xc_seq ?_
    refine xc_region ?_
    refine xo_rd (rd_move rfl) rfl ?_
    refine xo_ef rfl (ef_call rfl (XF.mono (xf_totals b o) ?_))
    rintro v L' ⟨rfl, rfl⟩
    refine xo_rd (rd_move rfl) rfl ?_
    refine xo_rd (rd_extract rfl rfl) rfl ?_
    refine xo_rd (rd_extract rfl rfl) rfl ?_
    refine xo_rd (rd_assign rfl) rfl ?_
    refine xo_rd (rd_assign rfl) rfl ?_
    refine xo_nil ?_
    refine xq_seq ?_
    refine xc_seq ?_
    refine xc_region ?_
    refine xo_rd (rd_move rfl) rfl ?_
    refine xo_rd (rd_gtr rfl rfl) rfl ?_
    refine xo_rd (rd_assign rfl) rfl ?_
    refine xo_nil ?_
    refine xq_seq ?_
    refine xc_ret ?_
    exact xq_ret1 (.inl rfl) Try.results25 rfl (⟨rfl, rfl⟩)
end
end Go.Proofs.Ytogilblilljpmaa.X
/-
  The report layer's outlet tells, by walks of my own.
-/
namespace Go.Proofs.Ytogilblilljpmaa.X
open Go Go.RowKit
set_option linter.unusedVariables false
set_option linter.unusedSimpArgs false
theorem bks_one (xs : List Bk) : (xs.flatMap Bk.enc).all (·.oneCell') = true := by
  induction xs with
  | nil => rfl
  | cons a r ih => rw [List.flatMap_cons, List.all_append, ih, Bk.one]; rfl
def SndM (L : List Blk) (x : Sn) (v : Value) (L' : List Blk) : Prop :=
  ∃ s k l, v = .agg (x.enc (.slice s x.bl.length k)).toArray ∧ SlO 7 30 (.slice s x.bl.length k) x.bl.length (x.bl.flatMap Bk.enc) l ∧ L' = l ++ L
section
variable {W : World} {L : List Blk}
theorem xf_tell0 (now : Int) (hn : U8 now) (p : Option Addr) (n c : Nat) (xs : List Bk) (hx : xs.length = n) (hr : Rs W L p (xs.flatMap Bk.enc)) (hm : n ≤ 1000000) :
    XF Try.prog W 22 #[.pointer none, .int .u64 now, .slice p n c] L (SndM L ⟨0, ntpF now, 0, 0, 0, xs⟩) := by
  refine xf_enter (args := [.pointer none, .int .u64 now, .slice p n c]) Try.func22 rfl Try.ntmps22 rfl ?_
  subst hx
  focus
    refine xc_seq ?_
    refine xc_region ?_
    refine xo_ef rfl (ef_alloc fun r6 => ?_)
    refine xo_nil ?_
    refine xq_seq ?_
    refine xc_seq ?_
    refine xc_region ?_
    refine xo_rd (rd_move rfl) rfl ?_
    refine xo_ef rfl (ef_call rfl (XF.mono (xf_ntp _ hn) ?_))
    rintro v L' ⟨rfl, rfl⟩
    refine xo_ef rfl (ef_slice0 fun r12 => ?_)
    refine xo_rd (rd_move rfl) rfl ?_
  refine xo_ef rfl (ef_append [] _ [_] rfl rfl SlO.zero rfl (hr.mono (by intro z hz; simp [hz])) (flat_length Bk.enc Bk.len _) (bks_one _) (by decide) (by omega) (by omega) fun v' l' hO => ?_)
  rw [Nat.zero_add, List.nil_append] at hO
  obtain ⟨q, k, rfl, hO, _⟩ := hO.opn
  rw [List.nil_append]
  refine xo_seg [_] l' _ ?_
  focus
    refine xo_rd (rd_build rfl rfl rfl) rfl ?_
    refine xo_ef rfl (ef_alloc fun r7 => ?_)
    refine xo_ef rfl (ef_storeB [] _ rfl rfl (by first | rfl | assumption) rfl rfl rfl ?_)
    refine xo_nil ?_
    refine xq_seq ?_
    refine xc_seq ?_
    refine xc_seq ?_
    refine xc_region ?_
    refine xo_rd (rd_move rfl) rfl ?_
    refine xo_rd (rd_eqnil rfl) rfl ?_
    refine xo_nil ?_
    refine xq_seq ?_
    refine xc_condt rfl ?_
    refine xc_seq ?_
    refine xc_region ?_
    refine xo_rd (rd_loadB rfl Kn.o0 (by rfl)) rfl ?_
    refine xo_ef rfl (ef_storeB [_] _ rfl rfl (by first | rfl | assumption) rfl rfl rfl ?_)
    refine xo_nil ?_
    refine xq_seq ?_
    refine xc_ret ?_
    refine xq_then_ret ?_
  exact xq_retB (.inl rfl) Try.results22 rfl Kn.o1 rfl (List.sublist_append_right [_, _] _) ⟨q, k, l', rfl, hO, rfl⟩
theorem xf_tell (b : Nat) (o : Oo) (ho : o.Rg) (now : Int) (hn : U8 now) (p : Option Addr) (n c : Nat) (xs : List Bk) (hx : xs.length = n) (hr : Rs W (o.blk b :: L) p (xs.flatMap Bk.enc)) (hm : n ≤ 1000000) :
    XF Try.prog W 22 #[.pointer (some ⟨b, 0, none⟩), .int .u64 now, .slice p n c] (o.blk b :: L) (SndM (o.blk b :: L) (sndF o now xs)) := by
  refine xf_enter (args := [.pointer (some ⟨b, 0, none⟩), .int .u64 now, .slice p n c]) Try.func22 rfl Try.ntmps22 rfl ?_
  subst hx
  have h8 := sinceF_range ho.ti hn
  focus
    refine xc_seq ?_
    refine xc_region ?_
    refine xo_ef rfl (ef_alloc fun r6 => ?_)
    refine xo_nil ?_
    refine xq_seq ?_
    refine xc_seq ?_
    refine xc_region ?_
    refine xo_rd (rd_move rfl) rfl ?_
    refine xo_ef rfl (ef_call rfl (XF.mono (xf_ntp _ hn) ?_))
    rintro v L' ⟨rfl, rfl⟩
    refine xo_ef rfl (ef_slice0 fun r12 => ?_)
    refine xo_rd (rd_move rfl) rfl ?_
  refine xo_ef rfl (ef_append [] _ [_] rfl rfl SlO.zero rfl (hr.mono (by intro z hz; simp [hz])) (flat_length Bk.enc Bk.len _) (bks_one _) (by decide) (by omega) (by omega) fun v' l' hO => ?_)
  rw [Nat.zero_add, List.nil_append] at hO
  obtain ⟨q, k, rfl, hO, _⟩ := hO.opn
  rw [List.nil_append]
  refine xo_seg [_, _] l' _ ?_
  obtain ⟨ss, pk, bt, otm, ti⟩ := o
  obtain ⟨⟨s0, s1⟩, ⟨k0, k1⟩, ⟨b0, b1⟩, ⟨m0, m1⟩, ⟨t0, t1⟩⟩ := ho
  dsimp only [Oo.blk, Oo.enc] at *
  focus
    refine xo_rd (rd_build rfl rfl rfl) rfl ?_
    refine xo_ef rfl (ef_alloc fun r7 => ?_)
    refine xo_ef rfl (ef_storeB [] _ rfl rfl (by first | rfl | assumption) rfl rfl rfl ?_)
    refine xo_nil ?_
    refine xq_seq ?_
    refine xc_seq ?_
    refine xc_seq ?_
    refine xc_region ?_
    refine xo_rd (rd_move rfl) rfl ?_
    refine xo_rd (rd_eqnil rfl) rfl ?_
    refine xo_nil ?_
    refine xq_seq ?_
    refine xc_condf rfl ?_
    refine xc_skip ?_
    refine xq_seq ?_
    refine xc_seq ?_
    refine xc_region ?_
    refine xo_rd (rd_move rfl) rfl ?_
    refine xo_ef rfl (ef_call rfl (XF.mono (XF.mid [_, _] (xf_totals b ⟨ss, pk, bt, otm, ti⟩)) ?_))
    rintro v L' ⟨rfl, rfl⟩
    refine xo_mid [_, _] ?_
    refine xo_rd (rd_move rfl) rfl ?_
    refine xo_rd (rd_extract rfl rfl) rfl ?_
    refine xo_rd (rd_extract rfl rfl) rfl ?_
    refine xo_rd (rd_assign rfl) rfl ?_
    refine xo_rd (rd_assign rfl) rfl ?_
    refine xo_nil ?_
    refine xq_seq ?_
    refine xc_seq ?_
    refine xc_region ?_
    refine xo_rd (rd_move rfl) rfl ?_
    refine xo_rd (rd_nilCheck rfl) rfl ?_
    refine xo_rd (rd_fieldAddr rfl) rfl ?_
    refine xo_rd (rd_load1 rfl (Cl.o2 rfl)) rfl ?_
    refine xo_rd (rd_move rfl) rfl ?_
    refine xo_rd (rd_conv rfl) rfl ?_
    refine xo_rd (rd_move rfl) rfl ?_
    refine xo_rd (rd_conv rfl) rfl ?_
    refine xo_rd (rd_fieldAddr rfl) rfl ?_
    refine xo_ef rfl (ef_store1 [] _ rfl rfl (by first | rfl | assumption) rfl rfl rfl ?_)
    refine xo_rd (rd_fieldAddr rfl) rfl ?_
    refine xo_ef rfl (ef_store1 [] _ rfl rfl (by first | rfl | assumption) rfl rfl rfl ?_)
    refine xo_rd (rd_fieldAddr rfl) rfl ?_
    refine xo_ef rfl (ef_store1 [] _ rfl rfl (by first | rfl | assumption) rfl rfl rfl ?_)
    refine xo_nil ?_
    refine xq_seq ?_
    refine xc_seq ?_
    refine xc_seq ?_
    refine xc_region ?_
    refine xo_rd (rd_move rfl) rfl ?_
    refine xo_rd (rd_gtr rfl rfl) rfl ?_
    refine xo_nil ?_
    refine xq_seq ?_
    refine xc_dec rfl (fun h1 => ?_) (fun h1 => ?_)
    refine xc_drawM [0, 1, 2, 4, 0, 16, 32, 72, 0, 384, 512, 1024, 2056, 8191, 16383] [0, 1, 2, 4, 0, 16, 32, 72, 0, 384, 512, 1024, 2056, 8191, 16383] ([(b, .cells [.int .u32 ss, .int .u64 pk, .int .u64 bt, .int .u32 otm, .int .u64 ti].toArray 104 (0, 0))]) (by kernel_rfl) (by kernel_rfl) (by kernel_rfl) ?_
    refine xm_take 0 (m' := 1) rfl (by kernel_rfl) (by first | exact Sb.refl | exact Sb.nil | (repeat (first | exact Sb.nil | exact Sb.refl | exact Sb.app0 | apply Sb.keep | apply Sb.keepApp | apply Sb.cons | apply Sb.app))) (rd_move rfl) rfl (by kernel_rfl) ?_
    refine xm_take 1 (m' := 3) rfl (by kernel_rfl) (by first | exact Sb.refl | exact Sb.nil | (repeat (first | exact Sb.nil | exact Sb.refl | exact Sb.app0 | apply Sb.keep | apply Sb.keepApp | apply Sb.cons | apply Sb.app))) (rd_nilCheck rfl) rfl (by kernel_rfl) ?_
    refine xm_take 2 (m' := 7) rfl (by kernel_rfl) (by first | exact Sb.refl | exact Sb.nil | (repeat (first | exact Sb.nil | exact Sb.refl | exact Sb.app0 | apply Sb.keep | apply Sb.keepApp | apply Sb.cons | apply Sb.app))) (rd_fieldAddr rfl) rfl (by kernel_rfl) ?_
    refine xm_take 4 (m' := 23) rfl (by kernel_rfl) (by first | exact Sb.refl | exact Sb.nil | (repeat (first | exact Sb.nil | exact Sb.refl | exact Sb.app0 | apply Sb.keep | apply Sb.keepApp | apply Sb.cons | apply Sb.app))) (rd_move rfl) rfl (by kernel_rfl) ?_
    refine xm_take 5 (m' := 55) rfl (by kernel_rfl) (by first | exact Sb.refl | exact Sb.nil | (repeat (first | exact Sb.nil | exact Sb.refl | exact Sb.app0 | apply Sb.keep | apply Sb.keepApp | apply Sb.cons | apply Sb.app))) (rd_nilCheck rfl) rfl (by kernel_rfl) ?_
    refine xm_take 6 (m' := 119) rfl (by kernel_rfl) (by first | exact Sb.refl | exact Sb.nil | (repeat (first | exact Sb.nil | exact Sb.refl | exact Sb.app0 | apply Sb.keep | apply Sb.keepApp | apply Sb.cons | apply Sb.app))) (rd_fieldAddr rfl) rfl (by kernel_rfl) ?_
    refine xm_take 8 (m' := 375) rfl (by kernel_rfl) (by first | exact Sb.refl | exact Sb.nil | (repeat (first | exact Sb.nil | exact Sb.refl | exact Sb.app0 | apply Sb.keep | apply Sb.keepApp | apply Sb.cons | apply Sb.app))) (rd_move rfl) rfl (by kernel_rfl) ?_
    refine xm_one 3 (m' := 383) rfl (by kernel_rfl) rfl (by kernel_rfl) (ef_call rfl (XF.mono (xf_ld32 (Cl.o2 rfl)) ?_))
    rintro v L' ⟨rfl, rfl⟩
    refine ⟨(by first | exact Sb.refl | exact Sb.nil | (repeat (first | exact Sb.nil | exact Sb.refl | exact Sb.app0 | apply Sb.keep | apply Sb.keepApp | apply Sb.cons | apply Sb.app))), ?_⟩
    refine xm_one 7 (m' := 511) rfl (by kernel_rfl) rfl (by kernel_rfl) (ef_call rfl (XF.mono (xf_ld64 (Cl.o2 rfl)) ?_))
    rintro v L' ⟨rfl, rfl⟩
    refine ⟨(by first | exact Sb.refl | exact Sb.nil | (repeat (first | exact Sb.nil | exact Sb.refl | exact Sb.app0 | apply Sb.keep | apply Sb.keepApp | apply Sb.cons | apply Sb.app))), ?_⟩
    refine xm_one 9 (m' := 1023) rfl (by kernel_rfl) rfl (by kernel_rfl) (ef_call rfl (XF.mono (xf_since ti now ⟨t0, t1⟩ hn) ?_))
    rintro v L' ⟨rfl, rfl⟩
    refine ⟨(by first | exact Sb.refl | exact Sb.nil | (repeat (first | exact Sb.nil | exact Sb.refl | exact Sb.app0 | apply Sb.keep | apply Sb.keepApp | apply Sb.cons | apply Sb.app))), ?_⟩
    refine xm_take 10 (m' := 2047) rfl (by kernel_rfl) (by first | exact Sb.refl | exact Sb.nil | (repeat (first | exact Sb.nil | exact Sb.refl | exact Sb.app0 | apply Sb.keep | apply Sb.keepApp | apply Sb.cons | apply Sb.app))) (rd_mul rfl rfl) rfl (by kernel_rfl) ?_
    refine xm_take 11 (m' := 4095) rfl (by kernel_rfl) (by first | exact Sb.refl | exact Sb.nil | (repeat (first | exact Sb.nil | exact Sb.refl | exact Sb.app0 | apply Sb.keep | apply Sb.keepApp | apply Sb.cons | apply Sb.app))) (rd_conv rfl) rfl (by kernel_rfl) ?_
    refine xm_take 12 (m' := 8191) rfl (by kernel_rfl) (by first | exact Sb.refl | exact Sb.nil | (repeat (first | exact Sb.nil | exact Sb.refl | exact Sb.app0 | apply Sb.keep | apply Sb.keepApp | apply Sb.cons | apply Sb.app))) (rd_add rfl rfl) rfl (by kernel_rfl) ?_
    refine xm_take 13 (m' := 16383) rfl (by kernel_rfl) (by first | exact Sb.refl | exact Sb.nil | (repeat (first | exact Sb.nil | exact Sb.refl | exact Sb.app0 | apply Sb.keep | apply Sb.keepApp | apply Sb.cons | apply Sb.app))) (rd_fieldAddr rfl) rfl (by kernel_rfl) ?_
    refine xm_one 14 (m' := 32767) rfl (by kernel_rfl) rfl (by kernel_rfl) (ef_store1 [] _ rfl rfl (by first | rfl | assumption) rfl rfl rfl ?_)
    refine ⟨(by first | exact Sb.refl | exact Sb.nil | (repeat (first | exact Sb.nil | exact Sb.refl | exact Sb.app0 | apply Sb.keep | apply Sb.keepApp | apply Sb.cons | apply Sb.app))), ?_⟩
    refine xm_done (by kernel_rfl) ?_
    refine xq_seq ?_
    refine xc_seq ?_
    refine xc_region ?_
    refine xo_rd (rd_loadB rfl Kn.o0 (by rfl)) rfl ?_
    refine xo_ef rfl (ef_storeB [_] _ rfl rfl (by first | rfl | assumption) rfl rfl rfl ?_)
    refine xo_nil ?_
    refine xq_seq ?_
    refine xc_ret ?_
    rotate_left
    refine xc_skip ?_
    refine xq_seq ?_
    refine xc_seq ?_
    refine xc_region ?_
    refine xo_rd (rd_loadB rfl Kn.o0 (by rfl)) rfl ?_
    refine xo_ef rfl (ef_storeB [_] _ rfl rfl (by first | rfl | assumption) rfl rfl rfl ?_)
    refine xo_nil ?_
    refine xq_seq ?_
    refine xc_ret ?_
    rotate_left
  · rename_i h0
    refine xq_permT [_, _] (seg_perm [_] l' L) ?_
    refine xq_retB (.inl rfl) Try.results22 rfl Kn.o1 rfl (List.sublist_append_right [_, _] _) ⟨q, k, l', ?_, hO, rfl⟩
    have e : IntKind.u32.wrap (otm + IntKind.u32.wrap (IntKind.u64.wrap (sinceF ti now * 90))) = rtF ⟨ss, pk, bt, otm, ti⟩ now := by
      obtain ⟨z0, z1⟩ := h8
      unfold rtF; dsimp only; rw [if_pos (by omega)]; simp only [IntKind.wrap_u32, wrap_u64]; omega
    show Value.agg #[.int .u32 ss, .int .u64 (ntpF now), .int .u32 (IntKind.u32.wrap (otm + IntKind.u32.wrap (IntKind.u64.wrap (sinceF ti now * 90)))), .int .u32 (IntKind.u32.wrap pk), .int .u32 (IntKind.u32.wrap bt), .slice q xs.length k] = _
    rw [e]; rfl
  · rename_i h0
    refine xq_permT [_, _] (seg_perm [_] l' L) ?_
    refine xq_retB (.inl rfl) Try.results22 rfl Kn.o1 rfl (List.sublist_append_right [_, _] _) ⟨q, k, l', ?_, hO, rfl⟩
    have e : (0 : Int) = rtF ⟨ss, pk, bt, otm, ti⟩ now := by unfold rtF; dsimp only; rw [if_neg (by omega)]
    show Value.agg #[.int .u32 ss, .int .u64 (ntpF now), .int .u32 0, .int .u32 (IntKind.u32.wrap pk), .int .u32 (IntKind.u32.wrap bt), .slice q xs.length k] = _
    rw [e]; rfl
end
end Go.Proofs.Ytogilblilljpmaa.X
