/-
  The reference puts blocks: walks of my own.
-/
import Derived.Test.YtohlaabclifbfaaD4
namespace Go.Proofs.Ytohlaabclifbfaa.X
open Go Go.RowKit
set_option linter.unusedVariables false
set_option linter.unusedSimpArgs false
theorem xf_rlg {W : World} {L : List Blk} (n : Int) (h : U4 n) : XF Try.prog W 59 #[.int .u32 n] L (fun v L' => ∃ s k l, v = .slice s 4 k ∧ SlO 1 5 (.slice s 4 k) 4 (ints .u8 (be4 n)) l ∧ L' = l ++ L) := by
  refine xf_enter (args := [_]) Try.func59 rfl Try.ntmps59 rfl ?_
  unfold U4 at h
  focus
    refine xc_seq ?_
    refine xc_region ?_
    refine xo_rd (rd_assign rfl) rfl ?_
    refine xo_nil ?_
    refine xq_seq ?_
    refine xc_seq ?_
    refine xc_region ?_
    refine xo_rd (rd_move rfl) rfl ?_
    refine xo_rd (rd_convn rfl (by omega) (by omega)) rfl ?_
    refine xo_ef rfl (ef_call rfl (XF.mono (xf_bytes n 4 h.1 (by omega) (by decide)) ?_))
    rintro v L' ⟨s, k, l, rfl, hO, rfl⟩
    refine xo_rd (rd_assign rfl) rfl ?_
    refine xo_nil ?_
    refine xq_seq ?_
    refine xc_ret ?_
  rw [← beK_4]
  exact xq_ret1 (.inl rfl) Try.results59 rfl ⟨s, k, l, rfl, hO, rfl⟩
theorem pad_ne {m : Nat} (h : ¬ (m % 4 = 0)) : (4 - m % 4) % 4 = (4 - (m + 1) % 4) % 4 + 1 := by omega
set_option maxHeartbeats 2000000 in
theorem xf_rfilled {W : World} {L : List Blk} (v : Value) (m : Nat) (xs : List Int) (l : List Blk) (hO : SlO 1 5 v m (ints .u8 xs) l) (hm : m ≤ 1000000000000) :
    XF Try.prog W 62 #[v] (l ++ L) (fun v L' => ∃ s k l', v = .slice s (m + (4 - m % 4) % 4) k ∧ SlO 1 5 (.slice s (m + (4 - m % 4) % 4) k) (m + (4 - m % 4) % 4) (ints .u8 (xs ++ List.replicate ((4 - m % 4) % 4) 0)) l' ∧ L' = l' ++ L) := by
  refine xf_enter (args := [_]) Try.func62 rfl Try.ntmps62 rfl ?_
  obtain ⟨s, k, rfl, hO, hk⟩ := hO.opn
  focus
    refine xc_seq ?_
    refine xc_region ?_
    refine xo_rd (rd_assign rfl) rfl ?_
    refine xo_nil ?_
    refine xq_seq ?_
  refine xc_seq (xc_block ?_)
  refine xc_loopI (ι := LgS) (fun z => m + z.i + (4 - (m + z.i) % 4) % 4 = m + (4 - m % 4) % 4 ∧ z.i ≤ 4 ∧ SlO 1 5 (.slice z.s (m + z.i) z.k) (m + z.i) (ints .u8 (xs ++ List.replicate z.i 0)) z.l) (fun z => (4 - (m + z.i) % 4) % 4) (fun z => z.l ++ L) (fun z => [(0, .slice z.s (m + z.i) z.k)]) ⟨0, s, k, l⟩ ⟨rfl, Nat.zero_le _, by dsimp only; rw [List.replicate_zero, List.append_nil]; exact hO⟩ rfl (by repeat (first | exact keep_nil | refine keep_cons rfl ?_)) ?_
  rintro ⟨i, s, k, l⟩ ⟨heq, hi4, hO⟩
  dsimp only at heq hi4 hO ⊢
  by_cases h4 : (m + i) % 4 = 0
  · have hi : i = (4 - m % 4) % 4 := by omega
    rw [← hi]
    focus
      refine xc_seq ?_
      refine xc_seq ?_
      refine xc_region ?_
      refine xo_rd (rd_move rfl) rfl ?_
      refine xo_rd (rd_len rfl) rfl ?_
      refine xo_rd (rd_remn rfl rfl (by omega) (by omega)) rfl ?_
      refine xo_rd (rd_neq rfl rfl) rfl ?_
      refine xo_nil ?_
      refine xq_seq ?_
      refine xc_ndec rfl (fun hq1 => (by exfalso; omega)) (fun hq1 => ?_)
      refine xc_exit ?_
      refine xq_then_exit ?_
      refine xq_then_exit ?_
      refine xq_block_hit ?_
      refine xq_seq ?_
      refine xc_seq ?_
      refine xc_region ?_
      refine xo_rd (rd_move rfl) rfl ?_
      refine xo_rd (rd_assign rfl) rfl ?_
      refine xo_nil ?_
      refine xq_seq ?_
      refine xc_ret ?_
    exact xq_ret1 (.inl rfl) Try.results62 rfl ⟨s, k, l, rfl, hO, rfl⟩
  · skip
    focus
      refine xc_seq ?_
      refine xc_seq ?_
      refine xc_region ?_
      refine xo_rd (rd_move rfl) rfl ?_
      refine xo_rd (rd_len rfl) rfl ?_
      refine xo_rd (rd_remn rfl rfl (by omega) (by omega)) rfl ?_
      refine xo_rd (rd_neq rfl rfl) rfl ?_
      refine xo_nil ?_
      refine xq_seq ?_
      refine xc_ndec rfl (fun hq1 => ?_) (fun hq1 => (by exfalso; omega))
      refine xc_skip ?_
      refine xq_seq ?_
      refine xc_block ?_
      refine xc_region ?_
      refine xo_rd (rd_move rfl) rfl ?_
      refine xo_ef rfl (ef_slice1 rfl rfl rfl fun r38 => ?_)
      refine xo_ef rfl (ef_appendS [_] L l (news := [.int .u8 0]) rfl rfl hO rfl (Rs.fresh (List.Mem.head _)) rfl rfl (by decide) (by omega) (by omega) fun s' k' l' hO' hk' => ?_)
      refine xo_rd (rd_assign rfl) rfl ?_
      refine xo_nil ?_
      refine xq_block ?_
    refine xq_tail (xq_roundI (⟨i + 1, s', k', l'⟩ : LgS) ⟨by dsimp only; omega, by dsimp only; omega, ?_⟩ (by dsimp only; omega) rfl (by repeat (first | exact keep_nil | refine keep_cons rfl ?_)))
    dsimp only
    rw [List.replicate_succ', ← List.append_assoc, ints_app]
    exact hO'
theorem be4_3 (lo t : Int) (h0 : 0 ≤ lo) (h1 : lo ≤ 255) (h2 : 0 ≤ t) (h3 : t < 16777216) : [lo] ++ beK 3 t = be4 (lo * 16777216 + t) := by
  show [lo, _, _, _] = _
  simp only [be4, List.cons.injEq, and_true]
  refine ⟨?_, ?_, ?_, ?_⟩ <;> omega
theorem perm_p1 {a : Blk} (l2 l R : List Blk) : (l2 ++ (a :: (l ++ R))).Perm (a :: (l ++ (l2 ++ R))) := (by classical exact List.perm_iff_count.2 fun a => by simp only [List.append_eq, List.count_append, List.count_cons, List.count_nil, List.cons_append, List.nil_append, List.flatMap_append, List.flatMap_cons, List.flatMap_nil, List.append_nil]; omega)
theorem perm_p2 {a b : Blk} (l2 l R : List Blk) : (l2 ++ (a :: b :: (l ++ R))).Perm (a :: b :: (l ++ (l2 ++ R))) := (by classical exact List.perm_iff_count.2 fun a => by simp only [List.append_eq, List.count_append, List.count_cons, List.count_nil, List.cons_append, List.nil_append, List.flatMap_append, List.flatMap_cons, List.flatMap_nil, List.append_nil]; omega)
theorem perm_p3 {a b c : Blk} (l2 l R : List Blk) : (l2 ++ (a :: b :: c :: (l ++ R))).Perm (a :: b :: c :: (l ++ (l2 ++ R))) := (by classical exact List.perm_iff_count.2 fun a => by simp only [List.append_eq, List.count_append, List.count_cons, List.count_nil, List.cons_append, List.nil_append, List.flatMap_append, List.flatMap_cons, List.flatMap_nil, List.append_nil]; omega)
set_option maxHeartbeats 8000000 in
theorem xf_rblocks {W : World} {L : List Blk} (p : Option Addr) (n c : Nat) (xs : List Bk) (hx : xs.length = n) (hr : Rs W L p (xs.flatMap Bk.enc)) (hg : ∀ x, x ∈ xs → x.Rg) (hn : n ≤ 1000000) :
    XF Try.prog W 58 #[.slice p n c] L (BlM L (blkR xs)) := by
  refine xf_enter (args := [_]) Try.func58 rfl Try.ntmps58 rfl ?_
  focus
    refine xc_seq ?_
    refine xc_region ?_
    refine xo_rd (rd_assign rfl) rfl ?_
    refine xo_rd (rd_assign rfl) rfl ?_
    refine xo_nil ?_
    refine xq_seq ?_
    refine xc_seq ?_
    refine xc_region ?_
    refine xo_rd (rd_assign rfl) rfl ?_
    refine xo_nil ?_
    refine xq_seq ?_
    refine xc_seq ?_
    refine xc_seq ?_
    refine xc_region ?_
    refine xo_rd (rd_assign rfl) rfl ?_
    refine xo_nil ?_
    refine xq_seq ?_
    refine xc_block ?_
  refine xc_loopI (ι := LgS) (fun z => z.i ≤ n ∧ (∀ j (h : j < xs.length), j < z.i → xs[j].fit = true) ∧ SlO 1 5 (.slice z.s (24 * z.i) z.k) (24 * z.i) (ints .u8 ((xs.take z.i).flatMap bkL)) z.l) (fun z => n - z.i) (fun z => z.l ++ L) (fun z => [(0, .slice p n c), (4, .slice z.s (24 * z.i) z.k), (5, .int .i64 z.i)]) ⟨0, none, 0, []⟩ ⟨Nat.zero_le _, (fun j h hj => absurd hj (Nat.not_lt_zero _)), SlO.nil⟩ rfl (by repeat (first | exact keep_nil | refine keep_cons rfl ?_)) ?_
  rintro ⟨i, s3, k3, l3⟩ ⟨hi, hok, hO3⟩
  dsimp only at hi hok hO3 ⊢
  by_cases hin : i < n
  · obtain ⟨b, o, hp, hc⟩ := hr.rows Bk.len (by decide) (by omega)
    subst hp
    have hci := hc i (by omega)
    have hgx := hg xs[i] (List.getElem_mem _)
    have e1 : xs.take (i + 1) = xs.take i ++ [xs[i]] := by rw [List.take_add_one, List.getElem?_eq_getElem (by omega)]; rfl
    have hbad : xs[i].fit = false → blkR xs = ([], false) := fun h => by
      unfold blkR
      rw [if_neg]
      intro ha
      have := List.all_eq_true.1 ha xs[i] (List.getElem_mem _)
      rw [h] at this; cases this
    have hok' : xs[i].fit = true → ∀ j (h : j < xs.length), j < i + 1 → xs[j].fit = true := fun h j hj hji => by
      by_cases hji2 : j < i
      · exact hok j hj hji2
      · obtain rfl : j = i := by omega
        exact h
    generalize xs[i] = x at *
    have hcI : ∀ L', (∀ z, z ∈ L → z ∈ L') → ∀ (j : Nat) (u : Value), x.enc[j]? = some u → Cl W L' b (o + (i : Int).toNat * 7 + j) u := fun L' h j u hj => (hci j u hj).mono h
    have h1 := hgx.ss; have h2 := hgx.lo; have h3 := hgx.to; have h4 := hgx.hi; have h5 := hgx.ji; have h6 := hgx.ls; have h7 := hgx.dl
    obtain ⟨ss, lo, to, hi', ji, ls, dl⟩ := x
    dsimp only [By] at h1 h2 h3 h4 h5 h6 h7
    by_cases hf : -8388608 ≤ to ∧ to ≤ 8388607
    · skip
      focus
        refine xc_seq ?_
        refine xc_seq ?_
        refine xc_region ?_
        refine xo_rd (rd_move rfl) rfl ?_
        refine xo_rd (rd_move rfl) rfl ?_
        refine xo_rd (rd_len rfl) rfl ?_
        refine xo_rd (rd_lss rfl rfl) rfl ?_
        refine xo_nil ?_
        refine xq_seq ?_
        refine xc_dec rfl (fun hq1 => ?_) (fun hq1 => (by exfalso; omega))
        refine xc_skip ?_
        refine xq_seq ?_
        refine xc_seq ?_
        refine xc_block ?_
        refine xc_seq ?_
        refine xc_region ?_
        refine xo_rd (rd_move rfl) rfl ?_
        refine xo_rd (rd_move rfl) rfl ?_
        refine xo_rd (rd_indexAddr rfl rfl (by omega) (by omega)) rfl ?_
        refine xo_rd (rd_loadA (vs := [Value.int .u32 ss, .int .u8 lo, .int .i32 to, .int .u32 hi', .int .u32 ji, .int .u32 ls, .int .u32 dl]) rfl rfl (hcI _ (by intro z hz; simp [hz]))) rfl ?_
        refine xo_ef rfl (ef_alloc fun r6 => ?_)
        refine xo_ef rfl (ef_storeB [] _ rfl rfl (by first | rfl | assumption) rfl rfl rfl ?_)
        refine xo_nil ?_
        refine xq_seq ?_
        refine xc_seq ?_
        refine xc_seq ?_
        refine xc_region ?_
        refine xo_rd (rd_fieldAddr rfl) rfl ?_
        refine xo_rd (rd_load1 rfl (Cl.o0 rfl)) rfl ?_
        refine xo_rd (rd_lss rfl rfl) rfl ?_
        refine xo_rd (rd_move rfl) rfl ?_
        refine xo_dec 22 rfl (fun hq2 => (by exfalso; omega)) (fun hq2 => ?_)
        refine xo_grd rfl rfl (rd_fieldAddr rfl) rfl ?_
        refine xo_grd rfl rfl (rd_load1 rfl (Cl.o0 rfl)) rfl ?_
        refine xo_grd rfl rfl (rd_gtr rfl rfl) rfl ?_
        refine xo_rd (rd_pickf rfl rfl) rfl ?_
        refine xo_nil ?_
        refine xq_seq ?_
        refine xc_dec rfl (fun hq3 => (by exfalso; omega)) (fun hq3 => ?_)
        refine xc_skip ?_
        refine xq_seq ?_
        refine xc_seq ?_
        refine xc_region ?_
        refine xo_rd (rd_fieldAddr rfl) rfl ?_
        refine xo_rd (rd_load1 rfl (Cl.o0 rfl)) rfl ?_
        refine xo_rd (rd_addn rfl rfl (by omega) (by omega)) rfl ?_
        refine xo_rd (rd_convn rfl (by omega) (by omega)) rfl ?_
        refine xo_rd (rd_cast (v' := .int .u64 (to % 16777216)) (rd_remn rfl rfl (by omega) (by decide)) (congrArg (Value.int .u64) (show (to + 16777216) % 16777216 = to % 16777216 from by omega))) rfl ?_
        refine xo_rd (rd_assign rfl) rfl ?_
        refine xo_nil ?_
        refine xq_seq ?_
        refine xc_seq ?_
        refine xc_region ?_
        refine xo_rd (rd_move rfl) rfl ?_
        refine xo_rd (rd_fieldAddr rfl) rfl ?_
        refine xo_rd (rd_load1 rfl (Cl.o0 rfl)) rfl ?_
        refine xo_ef rfl (ef_call rfl (XF.mono (xf_rlg ss h1) ?_))
        rintro v L' ⟨s2, k2, l2, rfl, hO2, rfl⟩
        refine xo_perm (perm_p1 l2 l3 _) ?_
        refine xo_ef rfl (ef_appendS [_] _ l3 (news := ints .u8 (be4 ss)) rfl rfl hO3 rfl (hO2.rs (by intro z hz; simp [hz])) rfl rfl (by decide) (by omega) (by omega) fun s3 k3 l3 hO3 hk3 => ?_)
        refine xo_rd (rd_assign rfl) rfl ?_
        refine xo_nil ?_
        refine xq_seq ?_
        refine xc_seq ?_
        refine xc_region ?_
        refine xo_rd (rd_move rfl) rfl ?_
        refine xo_rd (rd_fieldAddr rfl) rfl ?_
        refine xo_rd (rd_load1 rfl (Cl.o0 rfl)) rfl ?_
        refine xo_ef rfl (ef_slice1 rfl rfl rfl fun r40 => ?_)
        refine xo_ef rfl (ef_appendS [_, _] _ l3 (news := [.int .u8 lo]) rfl rfl hO3 rfl (Rs.fresh (List.Mem.head _)) rfl rfl (by decide) (by omega) (by omega) fun s3 k3 l3 hO3 hk3 => ?_)
        refine xo_rd (rd_assign rfl) rfl ?_
        refine xo_nil ?_
        refine xq_seq ?_
        refine xc_seq ?_
        refine xc_region ?_
        refine xo_rd (rd_move rfl) rfl ?_
        refine xo_rd (rd_move rfl) rfl ?_
        refine xo_ef rfl (ef_call rfl (XF.mono (xf_bytes (to % 16777216) 3 (by omega) (by omega) (by decide)) ?_))
        rintro v L' ⟨s2, k2, l2, rfl, hO2, rfl⟩
        refine xo_perm (perm_p2 l2 l3 _) ?_
        refine xo_ef rfl (ef_appendS [_, _] _ l3 (news := ints .u8 (beK 3 (to % 16777216))) rfl rfl hO3 rfl (hO2.rs (by intro z hz; simp [hz])) rfl rfl (by decide) (by omega) (by omega) fun s3 k3 l3 hO3 hk3 => ?_)
        refine xo_rd (rd_assign rfl) rfl ?_
        refine xo_nil ?_
        refine xq_seq ?_
        refine xc_seq ?_
        refine xc_region ?_
        refine xo_rd (rd_assign rfl) rfl ?_
        refine xo_nil ?_
        refine xq_seq ?_
        refine xc_block ?_
      have hO4 : SlO 1 5 (.slice s3 (24 * i + 8 + 4 * 0) k3) (24 * i + 8 + 4 * 0) (ints .u8 ((xs.take i).flatMap bkL ++ (be4 ss ++ be4 (lo * 16777216 + to % 16777216)) ++ ([hi', ji, ls, dl].take 0).flatMap be4)) l3 := by
        rw [← be4_3 lo (to % 16777216) h2.1 h2.2 (by omega) (by omega)]
        simp only [List.take_zero, List.flatMap_nil, List.append_nil, ints_app, List.append_assoc] at hO3 ⊢
        exact hO3
      generalize hacc : (xs.take i).flatMap bkL ++ (be4 ss ++ be4 (lo * 16777216 + to % 16777216)) = acc at *
      refine xc_sub (L' := (r6, .cells #[Value.int .u32 ss, .int .u8 lo, .int .i32 to, .int .u32 hi', .int .u32 ji, .int .u32 ls, .int .u32 dl] 132 (0, 0)) :: (l3 ++ L)) (.cons _ (.cons_cons _ (List.Sublist.append_left ((List.sublist_append_right _ L).trans (List.sublist_append_right _ _)) l3))) ?_
      refine xc_loopI (ι := LgS) (fun z => z.i ≤ 4 ∧ SlO 1 5 (.slice z.s (24 * i + 8 + 4 * z.i) z.k) (24 * i + 8 + 4 * z.i) (ints .u8 (acc ++ ([hi', ji, ls, dl].take z.i).flatMap be4)) z.l) (fun z => 4 - z.i) (fun z => (r6, .cells #[Value.int .u32 ss, .int .u8 lo, .int .i32 to, .int .u32 hi', .int .u32 ji, .int .u32 ls, .int .u32 dl] 132 (0, 0)) :: (z.l ++ L)) (fun z => [(0, .slice (some ⟨b, o, none⟩) n c), (4, .slice z.s (24 * i + 8 + 4 * z.i) z.k), (5, .int .i64 i), (6, .pointer (some ⟨r6, 0, none⟩)), (8, .int .i64 z.i)]) ⟨0, s3, k3, l3⟩ ⟨Nat.zero_le _, hO4⟩ rfl (by repeat (first | exact keep_nil | refine keep_cons rfl ?_)) ?_
      clear hO3 hO4
      rintro ⟨j, s3, k3, l3⟩ ⟨hj, hO3⟩
      dsimp only at hj hO3 ⊢
      by_cases hj4 : j < 4
      · have hv : U4 ([hi', ji, ls, dl][j]'(by simpa using hj4)) := by
          have : ∀ z, z ∈ [hi', ji, ls, dl] → U4 z := fun z hz => by
            simp only [List.mem_cons, List.not_mem_nil, or_false] at hz
            rcases hz with rfl | rfl | rfl | rfl <;> assumption
          exact this _ (List.getElem_mem _)
        have ht : [hi', ji, ls, dl].take (j + 1) = [hi', ji, ls, dl].take j ++ [[hi', ji, ls, dl][j]'(by simpa using hj4)] := by rw [List.take_add_one, List.getElem?_eq_getElem (by simpa using hj4)]; rfl
        have hk : (ints .u32 [hi', ji, ls, dl]).toArray[0 + (j : Int).toNat * 1]? = some (.int .u32 ([hi', ji, ls, dl][j]'(by simpa using hj4))) := by
          rw [List.getElem?_toArray, show 0 + (j : Int).toNat * 1 = j from by omega]
          exact ints_get _ _ _ _
        generalize [hi', ji, ls, dl][j]'(by simpa using hj4) = v at *
        focus
          refine xc_seq ?_
          refine xc_seq ?_
          refine xc_region ?_
          refine xo_rd (rd_move rfl) rfl ?_
          refine xo_rd (rd_lss rfl rfl) rfl ?_
          refine xo_nil ?_
          refine xq_seq ?_
          refine xc_dec rfl (fun hq1 => ?_) (fun hq1 => (by exfalso; omega))
          refine xc_skip ?_
          refine xq_seq ?_
          refine xc_seq ?_
          refine xc_block ?_
          refine xc_region ?_
          refine xo_rd (rd_move rfl) rfl ?_
          refine xo_rd (rd_fieldAddr rfl) rfl ?_
          refine xo_rd (rd_load1 rfl (Cl.o0 rfl)) rfl ?_
          refine xo_rd (rd_fieldAddr rfl) rfl ?_
          refine xo_rd (rd_load1 rfl (Cl.o0 rfl)) rfl ?_
          refine xo_rd (rd_fieldAddr rfl) rfl ?_
          refine xo_rd (rd_load1 rfl (Cl.o0 rfl)) rfl ?_
          refine xo_rd (rd_fieldAddr rfl) rfl ?_
          refine xo_rd (rd_load1 rfl (Cl.o0 rfl)) rfl ?_
          refine xo_ef rfl (ef_buildL (T := 55) (len := 4) (s := 1) (cells := (ints .u32 [hi', ji, ls, dl]).toArray) rfl (by decide) (by decide) (by kernel_rfl) fun r59 => ?_)
          refine xo_rd (rd_move rfl) rfl ?_
          refine xo_rd (rd_indexAddr rfl rfl (by omega) (by omega)) rfl ?_
          refine xo_rd (rd_load1 rfl (Cl.own (cs := (ints .u32 [hi', ji, ls, dl]).toArray) (List.Mem.head _) hk)) rfl ?_
          refine xo_ef rfl (ef_call rfl (XF.mono (xf_rlg v hv) ?_))
          rintro v L' ⟨s2, k2, l2, rfl, hO2, rfl⟩
          refine xo_perm (perm_p2 l2 l3 _) ?_
          refine xo_ef rfl (ef_appendS [_, _] _ l3 (news := ints .u8 (be4 v)) rfl rfl hO3 rfl (hO2.rs (by intro z hz; simp [hz])) rfl rfl (by decide) (by omega) (by omega) fun s4 k4 l4 hO4 hk4 => ?_)
          refine xo_rd (rd_assign rfl) rfl ?_
          refine xo_nil ?_
          refine xq_block ?_
          refine xq_seq ?_
          refine xc_region ?_
          refine xo_rd (rd_move rfl) rfl ?_
          refine xo_rd (rd_addn rfl rfl (by omega) (by omega)) rfl ?_
          refine xo_rd (rd_assign rfl) rfl ?_
          refine xo_nil ?_
        refine xq_sub (L' := (r6, .cells #[Value.int .u32 ss, .int .u8 lo, .int .i32 to, .int .u32 hi', .int .u32 ji, .int .u32 ls, .int .u32 dl] 132 (0, 0)) :: (l4 ++ L)) (.cons _ (.cons_cons _ (List.Sublist.append_left (List.sublist_append_right _ L) l4))) (xq_roundI (⟨j + 1, s4, k4, l4⟩ : LgS) ⟨by dsimp only; omega, ?_⟩ (by dsimp only; omega) rfl (by repeat (first | exact keep_nil | refine keep_cons rfl ?_)))
        dsimp only
        rw [ht, List.flatMap_append, List.flatMap_singleton, ← List.append_assoc, ints_app _ _ (be4 v)]
        exact hO4
      · obtain rfl : j = 4 := by omega
        focus
          refine xc_seq ?_
          refine xc_seq ?_
          refine xc_region ?_
          refine xo_rd (rd_move rfl) rfl ?_
          refine xo_rd (rd_lss rfl rfl) rfl ?_
          refine xo_nil ?_
          refine xq_seq ?_
          refine xc_condf rfl ?_
          refine xc_exit ?_
          refine xq_then_exit ?_
          refine xq_then_exit ?_
          refine xq_block_hit ?_
          refine xq_block ?_
          refine xq_seq ?_
          refine xc_region ?_
          refine xo_rd (rd_move rfl) rfl ?_
          refine xo_rd (rd_addn rfl rfl (by omega) (by omega)) rfl ?_
          refine xo_rd (rd_assign rfl) rfl ?_
          refine xo_nil ?_
        refine xq_tail (xq_roundI (⟨i + 1, s3, k3, l3⟩ : LgS) ⟨by dsimp only; omega, hok' (decide_eq_true hf), ?_⟩ (by dsimp only; omega) rfl (by repeat (first | exact keep_nil | refine keep_cons rfl ?_)))
        dsimp only
        rw [e1, List.flatMap_append, List.flatMap_singleton]
        rw [← hacc, List.append_assoc] at hO3
        exact hO3
    · rw [hbad (decide_eq_false hf)]
      focus
        refine xc_seq ?_
        refine xc_seq ?_
        refine xc_region ?_
        refine xo_rd (rd_move rfl) rfl ?_
        refine xo_rd (rd_move rfl) rfl ?_
        refine xo_rd (rd_len rfl) rfl ?_
        refine xo_rd (rd_lss rfl rfl) rfl ?_
        refine xo_nil ?_
        refine xq_seq ?_
        refine xc_dec rfl (fun hq1 => ?_) (fun hq1 => (by exfalso; omega))
        refine xc_skip ?_
        refine xq_seq ?_
        refine xc_seq ?_
        refine xc_block ?_
        refine xc_seq ?_
        refine xc_region ?_
        refine xo_rd (rd_move rfl) rfl ?_
        refine xo_rd (rd_move rfl) rfl ?_
        refine xo_rd (rd_indexAddr rfl rfl (by omega) (by omega)) rfl ?_
        refine xo_rd (rd_loadA (vs := [Value.int .u32 ss, .int .u8 lo, .int .i32 to, .int .u32 hi', .int .u32 ji, .int .u32 ls, .int .u32 dl]) rfl rfl (hcI _ (by intro z hz; simp [hz]))) rfl ?_
        refine xo_ef rfl (ef_alloc fun r6 => ?_)
        refine xo_ef rfl (ef_storeB [] _ rfl rfl (by first | rfl | assumption) rfl rfl rfl ?_)
        refine xo_nil ?_
        refine xq_seq ?_
        refine xc_seq ?_
        refine xc_seq ?_
        refine xc_region ?_
        refine xo_rd (rd_fieldAddr rfl) rfl ?_
        refine xo_rd (rd_load1 rfl (Cl.o0 rfl)) rfl ?_
        refine xo_rd (rd_lss rfl rfl) rfl ?_
        refine xo_rd (rd_move rfl) rfl ?_
        refine xo_dec 22 rfl (fun hq2 => ?_) (fun hq2 => ?_)
        refine xo_gskip rfl rfl rfl rfl ?_
        refine xo_gskip rfl rfl rfl rfl ?_
        refine xo_gskip rfl rfl rfl rfl ?_
        refine xo_rd (rd_pickt rfl rfl) rfl ?_
        refine xo_nil ?_
        refine xq_seq ?_
        refine xc_condt rfl ?_
        refine xc_seq ?_
        refine xc_region ?_
        refine xo_rd (rd_assign rfl) rfl ?_
        refine xo_rd (rd_assign rfl) rfl ?_
        refine xo_nil ?_
        refine xq_seq ?_
        refine xc_ret ?_
        refine xq_then_ret ?_
        refine xq_block_ret ?_
        refine xq_then_ret ?_
        refine xq_then_ret ?_
        refine xq_block_ret ?_
        refine xq_then_ret ?_
        rotate_left
        refine xo_grd rfl rfl (rd_fieldAddr rfl) rfl ?_
        refine xo_grd rfl rfl (rd_load1 rfl (Cl.o0 rfl)) rfl ?_
        refine xo_grd rfl rfl (rd_gtr rfl rfl) rfl ?_
        refine xo_rd (rd_pickf rfl rfl) rfl ?_
        refine xo_nil ?_
        refine xq_seq ?_
        refine xc_dec rfl (fun hq3 => ?_) (fun hq3 => (by exfalso; omega))
        refine xc_seq ?_
        refine xc_region ?_
        refine xo_rd (rd_assign rfl) rfl ?_
        refine xo_rd (rd_assign rfl) rfl ?_
        refine xo_nil ?_
        refine xq_seq ?_
        refine xc_ret ?_
        refine xq_then_ret ?_
        refine xq_block_ret ?_
        refine xq_then_ret ?_
        refine xq_then_ret ?_
        refine xq_block_ret ?_
        refine xq_then_ret ?_
        rotate_left
      all_goals exact xq_sub (.cons _ (List.sublist_append_right l3 L)) (xq_ret2 (.inl rfl) Try.results58 rfl rfl ⟨none, 0, [], rfl, SlO.nil, rfl⟩)
  · focus
      refine xc_seq ?_
      refine xc_seq ?_
      refine xc_region ?_
      refine xo_rd (rd_move rfl) rfl ?_
      refine xo_rd (rd_move rfl) rfl ?_
      refine xo_rd (rd_len rfl) rfl ?_
      refine xo_rd (rd_lss rfl rfl) rfl ?_
      refine xo_nil ?_
      refine xq_seq ?_
      refine xc_dec rfl (fun h1 => (by exfalso; omega)) (fun h1 => ?_)
      refine xc_exit ?_
      refine xq_then_exit ?_
      refine xq_then_exit ?_
      refine xq_block_hit ?_
      refine xq_seq ?_
      refine xc_seq ?_
      refine xc_region ?_
      refine xo_rd (rd_move rfl) rfl ?_
      refine xo_rd (rd_move rfl) rfl ?_
      refine xo_rd (rd_len rfl) rfl ?_
      refine xo_rd (rd_leq rfl rfl) rfl ?_
      refine xo_rd (rd_assign rfl) rfl ?_
      refine xo_rd (rd_assign rfl) rfl ?_
      refine xo_nil ?_
      refine xq_seq ?_
      refine xc_ret ?_
    obtain rfl : i = n := by omega
    rw [List.take_of_length_le (by omega)] at hO3
    have hall : xs.all Bk.fit = true := List.all_eq_true.2 fun x hx => by
      obtain ⟨j, hj, rfl⟩ := List.getElem_of_mem hx
      exact hok j hj (by omega)
    have e2 : blkR xs = (xs.flatMap bkL, decide ((i : Int) ≤ 31)) := by
      unfold blkR
      rw [if_pos hall]
      congr 1
      by_cases h : i ≤ 31
      · rw [decide_eq_true (show xs.length ≤ 31 by omega), decide_eq_true (show (i : Int) ≤ 31 by omega)]
      · rw [decide_eq_false (show ¬ xs.length ≤ 31 by omega), decide_eq_false (show ¬ (i : Int) ≤ 31 by omega)]
    rw [e2]
    refine xq_ret2 (.inl rfl) Try.results58 rfl rfl ⟨s3, k3, l3, ?_, ?_, rfl⟩
    · dsimp only; rw [bkLs_len, hx]
    · dsimp only; rw [bkLs_len, hx]; exact hO3
end Go.Proofs.Ytohlaabclifbfaa.X
