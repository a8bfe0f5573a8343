/-
  Chunks, and who goes, are put: walks of my own.
-/
import Derived.Test.YtohlaabclifbfaaB5
import Derived.Test.YtohlaabclifbfaaX22
namespace Go.Proofs.Ytohlaabclifbfaa.X
open Go Go.RowKit
set_option linter.unusedVariables false
set_option linter.unusedSimpArgs false
structure Ck where
  ss : Int
  nm : ByteArray
def Ck.enc (x : Ck) : List Value := [.int .u32 x.ss, .string x.nm]
theorem Ck.len (x : Ck) : x.enc.length = 2 := rfl
theorem Ck.one (x : Ck) : x.enc.all (·.oneCell') = true := rfl
def fil (b : List Int) : List Int := b ++ List.replicate ((4 - b.length % 4) % 4) 0
theorem fil_len (b : List Int) : (fil b).length = b.length + (4 - b.length % 4) % 4 := by unfold fil; simp
def nameL (nm : ByteArray) : List Int := if nm.size = 0 then [] else [1, (nm.size : Int)] ++ sbs nm
def chA (acc : List Int) (x : Ck) : List Int := fil (acc ++ [x.ss].flatMap be4 ++ nameL x.nm ++ [0])
def chunksL (l : List Ck) : List Int := l.foldl chA []
def putCh (l : List Ck) : Pc × Int := if l.any (fun x => decide (255 < x.nm.size)) then (.zero, 2) else if 31 < l.length then (.zero, 2) else (⟨l.length, 202, chunksL l, 0⟩, 0)
theorem nameL_len (nm : ByteArray) (h : nm.size ≤ 255) : (nameL nm).length ≤ 257 := by
  unfold nameL
  split
  · exact Nat.zero_le _
  · rw [List.length_append, sbs_len]; simp; omega
theorem chA_len (acc : List Int) (x : Ck) (h : x.nm.size ≤ 255) : (chA acc x).length ≤ acc.length + 300 := by
  unfold chA
  rw [fil_len]
  have := nameL_len x.nm h
  simp only [List.length_append, flat4_len, List.length_singleton] at *
  omega
theorem nm_size0 {nm : ByteArray} : nm.size = 0 ↔ nm = ⟨#[]⟩ := by
  constructor
  · intro h
    cases nm with
    | mk d =>
      have : d.size = 0 := h
      rw [Array.eq_empty_of_size_eq_zero this]
  · rintro rfl; rfl
theorem perm_in3' {a b c : Blk} (l l' R : List Blk) : (l ++ (a :: b :: c :: (l' ++ R))).Perm (a :: b :: c :: (l' ++ (l ++ R))) := (by classical exact List.perm_iff_count.2 fun a => by simp only [List.append_eq, List.count_append, List.count_cons, List.count_nil, List.cons_append, List.nil_append, List.flatMap_append, List.flatMap_cons, List.flatMap_nil, List.append_nil]; omega)
structure ChS where
  ys : List Int
  s : Option Addr
  k : Nat
  l : List Blk
set_option maxHeartbeats 8000000 in
theorem xf_putChunks {W : World} {L : List Blk} (p : Option Addr) (n c : Nat) (xs : List Ck) (hx : xs.length = n) (hr : Rs W L p (xs.flatMap Ck.enc)) (hg : ∀ x, x ∈ xs → U4 x.ss) (hn : n ≤ 1000000) :
    XF Try.prog W 26 #[.slice p n c] L (PuM L (putCh xs)) := by
  refine xf_enter (args := [_]) Try.func26 rfl Try.ntmps26 rfl ?_
  focus
    refine xc_seq ?_
    refine xc_region ?_
    refine xo_ef rfl (ef_alloc fun r2 => ?_)
    refine xo_rd (rd_assign rfl) rfl ?_
    refine xo_nil ?_
    refine xq_seq ?_
    refine xc_seq ?_
    refine xc_region ?_
    refine xo_rd (rd_assign rfl) rfl ?_
    refine xo_nil ?_
    refine xq_seq ?_
    refine xc_seq ?_
    refine xc_seq ?_
    refine xc_region ?_
    refine xo_rd (rd_move rfl) rfl ?_
    refine xo_rd (rd_len rfl) rfl ?_
    refine xo_rd (rd_move rfl) rfl ?_
    refine xo_nil ?_
    refine xq_seq ?_
    refine xc_block ?_
  refine xc_loopI (ι := LgS) (fun z => z.i ≤ n ∧ (∀ j (h : j < xs.length), j < z.i → xs[j].nm.size ≤ 255) ∧ ((xs.take z.i).foldl chA []).length ≤ 300 * z.i ∧ SlO 1 5 (.slice z.s ((xs.take z.i).foldl chA []).length z.k) ((xs.take z.i).foldl chA []).length (ints .u8 ((xs.take z.i).foldl chA [])) z.l) (fun z => n - z.i) (fun z => (r2, .cells #[.int .u8 0, .int .u8 0, .slice none 0 0, .int .u8 0] 35 (0, 0)) :: (z.l ++ L)) (fun z => [(0, .slice p n c), (2, .pointer (some ⟨r2, 0, none⟩)), (4, .slice z.s ((xs.take z.i).foldl chA []).length z.k), (7, .slice p n c), (8, .int .i64 n), (9, .int .i64 z.i)]) ⟨0, none, 0, []⟩ ⟨Nat.zero_le _, (fun j h hj => absurd hj (Nat.not_lt_zero _)), Nat.zero_le _, SlO.nil⟩ rfl (by repeat (first | exact keep_nil | refine keep_cons rfl ?_)) ?_
  rintro ⟨i, s, k, l⟩ ⟨hi, hok, hle, hO⟩
  dsimp only at hi hok hle hO ⊢
  by_cases hin : i < n
  · obtain ⟨b, o, hp, hc⟩ := hr.rows Ck.len (by decide) (by omega)
    subst hp
    have hci := hc i (by omega)
    have hgx := hg xs[i] (List.getElem_mem _)
    have e1 : (xs.take (i + 1)).foldl chA [] = chA ((xs.take i).foldl chA []) xs[i] := by rw [List.take_add_one, List.getElem?_eq_getElem (by omega), List.foldl_append]; rfl
    have hbad : 255 < xs[i].nm.size → putCh xs = (.zero, 2) := fun h => by
      unfold putCh
      rw [if_pos]
      exact List.any_eq_true.2 ⟨xs[i], List.getElem_mem _, decide_eq_true h⟩
    have hok' : xs[i].nm.size ≤ 255 → ∀ j (h : j < xs.length), j < i + 1 → xs[j].nm.size ≤ 255 := fun h j hj hji => by
      by_cases hji2 : j < i
      · exact hok j hj hji2
      · obtain rfl : j = i := by omega
        exact h
    have hcl := chA_len ((xs.take i).foldl chA []) xs[i]
    generalize (xs.take i).foldl chA [] = acc at *
    generalize xs[i] = x at *
    have hcI : ∀ L', (∀ z, z ∈ L → z ∈ L') → ∀ (j : Nat) (u : Value), x.enc[j]? = some u → Cl W L' b (o + (i : Int).toNat * 2 + j) u := fun L' h j u hj => (hci j u hj).mono h
    obtain ⟨ss, nm⟩ := x
    dsimp only [U4] at hgx hbad hok' hcl
    have hu : ∀ z, z ∈ [ss] → U4 z := fun z hz => by rw [List.mem_singleton.1 hz]; exact hgx
    by_cases hf : 255 < nm.size
    · rw [hbad hf]
      focus
        refine xc_seq ?_
        refine xc_region ?_
        refine xo_rd (rd_lss rfl rfl) rfl ?_
        refine xo_nil ?_
        refine xq_seq ?_
        refine xc_seq ?_
        refine xc_dec rfl (fun hq1 => ?_) (fun hq1 => (by exfalso; omega))
        refine xc_skip ?_
        refine xq_seq ?_
        refine xc_seq ?_
        refine xc_block ?_
        refine xc_seq ?_
        refine xc_region ?_
        refine xo_rd (rd_indexAddr rfl rfl (by omega) (by omega)) rfl ?_
        refine xo_rd (rd_loadA (vs := [Value.int .u32 ss, .string nm]) rfl rfl (hcI _ (by intro z hz; simp [hz]))) rfl ?_
        refine xo_ef rfl (ef_alloc fun r6 => ?_)
        refine xo_ef rfl (ef_storeB [] _ rfl rfl (by first | rfl | assumption) rfl rfl rfl ?_)
        refine xo_nil ?_
        refine xq_seq ?_
        refine xc_seq ?_
        refine xc_seq ?_
        refine xc_region ?_
        refine xo_rd (rd_fieldAddr rfl) rfl ?_
        refine xo_rd (rd_load1 rfl (Cl.o0 rfl)) rfl ?_
        refine xo_rd (rd_lenStr rfl) rfl ?_
        refine xo_rd (rd_gtr rfl rfl) rfl ?_
        refine xo_nil ?_
        refine xq_seq ?_
        refine xc_dec rfl (fun hq2 => ?_) (fun hq2 => (by exfalso; omega))
        refine xc_seq ?_
        refine xc_region ?_
        refine xo_rd (rd_build rfl rfl rfl) rfl ?_
        refine xo_ef rfl (ef_storeB [_] _ rfl rfl (by first | rfl | assumption) rfl rfl rfl ?_)
        refine xo_rd (rd_assign rfl) rfl ?_
        refine xo_nil ?_
        refine xq_seq ?_
        refine xc_ret ?_
        refine xq_then_ret ?_
        refine xq_block_ret ?_
        refine xq_then_ret ?_
        refine xq_then_ret ?_
        refine xq_block_ret ?_
        refine xq_then_ret ?_
      exact xq_retB2 (.inl rfl) Try.results26 rfl rfl Kn.o1 rfl ((List.sublist_append_right l L).trans ((List.sublist_cons_self _ _).trans (List.sublist_cons_self _ _))) (PuM.err 2)
    · have hcl := hcl (by omega)
      focus
        refine xc_seq ?_
        refine xc_region ?_
        refine xo_rd (rd_lss rfl rfl) rfl ?_
        refine xo_nil ?_
        refine xq_seq ?_
        refine xc_seq ?_
        refine xc_dec rfl (fun hq1 => ?_) (fun hq1 => (by exfalso; omega))
        refine xc_skip ?_
        refine xq_seq ?_
        refine xc_seq ?_
        refine xc_block ?_
        refine xc_seq ?_
        refine xc_region ?_
        refine xo_rd (rd_indexAddr rfl rfl (by omega) (by omega)) rfl ?_
        refine xo_rd (rd_loadA (vs := [Value.int .u32 ss, .string nm]) rfl rfl (hcI _ (by intro z hz; simp [hz]))) rfl ?_
        refine xo_ef rfl (ef_alloc fun r6 => ?_)
        refine xo_ef rfl (ef_storeB [] _ rfl rfl (by first | rfl | assumption) rfl rfl rfl ?_)
        refine xo_nil ?_
        refine xq_seq ?_
        refine xc_seq ?_
        refine xc_seq ?_
        refine xc_region ?_
        refine xo_rd (rd_fieldAddr rfl) rfl ?_
        refine xo_rd (rd_load1 rfl (Cl.o0 rfl)) rfl ?_
        refine xo_rd (rd_lenStr rfl) rfl ?_
        refine xo_rd (rd_gtr rfl rfl) rfl ?_
        refine xo_nil ?_
        refine xq_seq ?_
        refine xc_dec rfl (fun hq2 => (by exfalso; omega)) (fun hq2 => ?_)
        refine xc_skip ?_
        refine xq_seq ?_
        refine xc_seq ?_
        refine xc_region ?_
        refine xo_rd (rd_move rfl) rfl ?_
        refine xo_rd (rd_fieldAddr rfl) rfl ?_
        refine xo_rd (rd_load1 rfl (Cl.o0 rfl)) rfl ?_
        refine xo_ef rfl (ef_slice1 rfl rfl rfl fun r21 => ?_)
        refine xo_ef rfl (ef_call rfl (XF.mono (xf_long (some ⟨r21, 0, none⟩) 1 1 [ss] rfl (Rs.fresh (List.Mem.head _)) hu (by decide)) ?_))
        rintro v L' ⟨s2, k2, l2, rfl, hO2, rfl⟩
        refine xo_perm (perm_in3' l2 l L) ?_
        refine xo_ef rfl (ef_appendS [_, _, _] (l2 ++ L) l (news := ints .u8 ([ss].flatMap be4)) rfl rfl hO rfl (hO2.rs (by intro z hz; simp [hz])) rfl (ints_one _ _) (by decide) (by omega) (by omega) fun s3 k3 l3 hO3 hk3 => ?_)
        refine xo_rd (rd_assign rfl) rfl ?_
        refine xo_nil ?_
        refine xq_seq ?_
      rw [← ints_app] at hO3
      refine xc_join (ι := ChS) (fun z => z.ys = acc ++ [ss].flatMap be4 ++ nameL nm ∧ SlO 1 5 (.slice z.s z.ys.length z.k) z.ys.length (ints .u8 z.ys) z.l) (fun z => (r2, .cells #[.int .u8 0, .int .u8 0, .slice none 0 0, .int .u8 0] 35 (0, 0)) :: (z.l ++ L)) (fun z => [(0, .slice (some ⟨b, o, none⟩) n c), (2, .pointer (some ⟨r2, 0, none⟩)), (4, .slice z.s z.ys.length z.k), (7, .slice (some ⟨b, o, none⟩) n c), (8, .int .i64 n), (9, .int .i64 i)]) ?_ ?_
      · have hl4 : (acc ++ [ss].flatMap be4).length = acc.length + 4 * 1 := by rw [List.length_append, flat4_len]; rfl
        by_cases h0 : nm.size = 0
        · have hnm := nm_size0.1 h0
          focus
            refine xc_seq ?_
            refine xc_region ?_
            refine xo_rd (rd_fieldAddr rfl) rfl ?_
            refine xo_rd (rd_load1 rfl (Cl.o1 rfl)) rfl ?_
            refine xo_rd (rd_cast (v' := .bool false) (rd_nes rfl rfl) (congrArg Value.bool (show (!decide (nm = ⟨#[]⟩)) = false from by rw [decide_eq_true hnm]; rfl))) rfl ?_
            refine xo_nil ?_
            refine xq_seq ?_
            refine xc_condf rfl ?_
            refine xc_skip ?_
          refine xq_sub (L' := (r2, .cells #[.int .u8 0, .int .u8 0, .slice none 0 0, .int .u8 0] 35 (0, 0)) :: (l3 ++ L)) (.cons _ (.cons _ (.cons_cons _ (List.Sublist.append_left (List.sublist_append_right l2 L) l3)))) (xq_joined (⟨acc ++ [ss].flatMap be4, s3, k3, l3⟩ : ChS) ⟨?_, by dsimp only; rw [hl4]; exact hO3⟩ rfl ?_)
          · dsimp only; unfold nameL; rw [if_pos h0, List.append_nil]
          · dsimp only; rw [hl4]; exact (by repeat (first | exact keep_nil | refine keep_cons rfl ?_))
        · have hnm : ¬ nm = ⟨#[]⟩ := fun h => h0 (nm_size0.2 h)
          have hl5 : (acc ++ [ss].flatMap be4 ++ nameL nm).length = acc.length + 4 * 1 + 2 + nm.size := by
            unfold nameL
            rw [if_neg h0, List.length_append, hl4, List.length_append, sbs_len]
            simp; omega
          have hin5 : ints .u8 (acc ++ [ss].flatMap be4 ++ nameL nm) = ints .u8 (acc ++ [ss].flatMap be4) ++ ints .u8 [1, (nm.size : Int)] ++ ints .u8 (sbs nm) := by
            unfold nameL
            rw [if_neg h0, ints_app, ints_app _ [1, (nm.size : Int)], List.append_assoc]
          focus
            refine xc_seq ?_
            refine xc_region ?_
            refine xo_rd (rd_fieldAddr rfl) rfl ?_
            refine xo_rd (rd_load1 rfl (Cl.o1 rfl)) rfl ?_
            refine xo_rd (rd_cast (v' := .bool true) (rd_nes rfl rfl) (congrArg Value.bool (show (!decide (nm = ⟨#[]⟩)) = true from by rw [decide_eq_false hnm]; rfl))) rfl ?_
            refine xo_nil ?_
            refine xq_seq ?_
            refine xc_condt rfl ?_
            refine xc_drawM [0, 0, 2, 4, 8, 16, 33, 0, 128, 320, 1023] [0, 0, 2, 4, 8, 16, 33, 0, 128, 320, 1023] ([(r6, .cells #[.int .u32 ss, .string nm] 97 (0, 0))]) (by kernel_rfl) (by kernel_rfl) (by kernel_rfl) ?_
            refine xm_take 0 (m' := 1) rfl (by kernel_rfl) (by first | exact Sb.refl | exact Sb.nil | (repeat (first | exact Sb.nil | exact Sb.refl | exact Sb.app0 | apply Sb.keep | apply Sb.keepApp | apply Sb.cons | apply Sb.app))) (rd_move rfl) rfl (by kernel_rfl) ?_
            refine xm_take 1 (m' := 3) rfl (by kernel_rfl) (by first | exact Sb.refl | exact Sb.nil | (repeat (first | exact Sb.nil | exact Sb.refl | exact Sb.app0 | apply Sb.keep | apply Sb.keepApp | apply Sb.cons | apply Sb.app))) (rd_fieldAddr rfl) rfl (by kernel_rfl) ?_
            refine xm_take 2 (m' := 7) rfl (by kernel_rfl) (by first | exact Sb.refl | exact Sb.nil | (repeat (first | exact Sb.nil | exact Sb.refl | exact Sb.app0 | apply Sb.keep | apply Sb.keepApp | apply Sb.cons | apply Sb.app))) (rd_load1 rfl (Cl.o0 rfl)) rfl (by kernel_rfl) ?_
            refine xm_take 3 (m' := 15) rfl (by kernel_rfl) (by first | exact Sb.refl | exact Sb.nil | (repeat (first | exact Sb.nil | exact Sb.refl | exact Sb.app0 | apply Sb.keep | apply Sb.keepApp | apply Sb.cons | apply Sb.app))) (rd_lenStr rfl) rfl (by kernel_rfl) ?_
            refine xm_take 4 (m' := 31) rfl (by kernel_rfl) (by first | exact Sb.refl | exact Sb.nil | (repeat (first | exact Sb.nil | exact Sb.refl | exact Sb.app0 | apply Sb.keep | apply Sb.keepApp | apply Sb.cons | apply Sb.app))) (rd_convn rfl (by omega) (by omega)) rfl (by kernel_rfl) ?_
            refine xm_take 7 (m' := 159) rfl (by kernel_rfl) (by first | exact Sb.refl | exact Sb.nil | (repeat (first | exact Sb.nil | exact Sb.refl | exact Sb.app0 | apply Sb.keep | apply Sb.keepApp | apply Sb.cons | apply Sb.app))) (rd_fieldAddr rfl) rfl (by kernel_rfl) ?_
            refine xm_take 8 (m' := 415) rfl (by kernel_rfl) (by first | exact Sb.refl | exact Sb.nil | (repeat (first | exact Sb.nil | exact Sb.refl | exact Sb.app0 | apply Sb.keep | apply Sb.keepApp | apply Sb.cons | apply Sb.app))) (rd_load1 rfl (Cl.o0 rfl)) rfl (by kernel_rfl) ?_
            refine xm_one 5 (m' := 447) rfl (by kernel_rfl) rfl (by kernel_rfl) (ef_buildL (T := 22) (len := 2) (s := 1) (cells := (ints .u8 [1, (nm.size : Int)]).toArray) rfl (by decide) (by decide) (by kernel_rfl) fun r32 => ?_)
            refine ⟨(by first | exact Sb.refl | exact Sb.nil | (repeat (first | exact Sb.nil | exact Sb.refl | exact Sb.app0 | apply Sb.keep | apply Sb.keepApp | apply Sb.cons | apply Sb.app))), ?_⟩
            refine xm_one 6 (m' := 511) rfl (by kernel_rfl) rfl (by kernel_rfl) (ef_appendS [_, _, _, _] (l2 ++ L) l3 (news := ints .u8 [1, (nm.size : Int)]) rfl rfl hO3 rfl (Rs.fresh (List.Mem.head _)) rfl rfl (by decide) (by omega) (by omega) fun s4 k4 l4 hO4 hk4 => ?_)
            refine ⟨(by first | exact Sb.refl | exact Sb.nil | (repeat (first | exact Sb.nil | exact Sb.refl | exact Sb.app0 | apply Sb.keep | apply Sb.keepApp | apply Sb.cons | apply Sb.app))), ?_⟩
            refine xm_one 9 (m' := 1023) rfl (by kernel_rfl) rfl (by kernel_rfl) (ef_appendT [_, _, _, _] (l2 ++ L) l4 rfl rfl hO4 rfl rfl (by omega) (by omega) fun s5 k5 l5 hO5 hk5 => ?_)
            refine ⟨(by first | exact Sb.refl | exact Sb.nil | (repeat (first | exact Sb.nil | exact Sb.refl | exact Sb.app0 | apply Sb.keep | apply Sb.keepApp | apply Sb.cons | apply Sb.app))), ?_⟩
            refine xm_take 10 (m' := 2047) rfl (by kernel_rfl) (by first | exact Sb.refl | exact Sb.nil | (repeat (first | exact Sb.nil | exact Sb.refl | exact Sb.app0 | apply Sb.keep | apply Sb.keepApp | apply Sb.cons | apply Sb.app))) (rd_assign rfl) rfl (by kernel_rfl) ?_
            refine xm_done (by kernel_rfl) ?_
          all_goals refine xq_sub (L' := (r2, .cells #[.int .u8 0, .int .u8 0, .slice none 0 0, .int .u8 0] 35 (0, 0)) :: (l5 ++ L)) (.cons _ (.cons _ (.cons _ (.cons_cons _ (List.Sublist.append_left (List.sublist_append_right l2 L) l5))))) (xq_joined (⟨acc ++ [ss].flatMap be4 ++ nameL nm, s5, k5, l5⟩ : ChS) ⟨rfl, by dsimp only; rw [hl5, hin5]; exact hO5⟩ rfl ?_)
          all_goals (dsimp only; rw [hl5]; exact (by repeat (first | exact keep_nil | refine keep_cons rfl ?_)))
      · rintro ⟨ys, s5, k5, l5⟩ ⟨hys, hO5⟩
        dsimp only at hys hO5 ⊢
        have hyl : ys.length ≤ acc.length + 270 := by
          have := nameL_len nm (by omega)
          rw [hys]
          simp only [List.length_append, flat4_len, List.length_singleton]
          omega
        have hcA : chA acc ⟨ss, nm⟩ = fil (ys ++ [0]) := by rw [hys]; rfl
        focus
          refine xc_region ?_
          refine xo_rd (rd_move rfl) rfl ?_
          refine xo_ef rfl (ef_slice1 rfl rfl rfl fun r38 => ?_)
          refine xo_ef rfl (ef_appendS [_, _] L l5 (news := [.int .u8 0]) rfl rfl hO5 rfl (Rs.fresh (List.Mem.head _)) rfl rfl (by decide) (by omega) (by omega) fun s6 k6 l6 hO6 hk6 => ?_)
          refine xo_ef rfl (ef_call rfl (XF.mono (XF.seg [_, _] l6 L (xf_filled _ (ys.length + 1) (ys ++ [0]) l6 (by rw [ints_snoc]; exact hO6) (by omega))) ?_))
          rintro v L' ⟨s7, k7, l7, rfl, hO7, rfl⟩
          refine xo_seg [_, _] l7 L ?_
          refine xo_rd (rd_assign rfl) rfl ?_
          refine xo_nil ?_
          refine xq_block ?_
          refine xq_seq ?_
          refine xc_region ?_
          refine xo_rd (rd_addn rfl rfl (by omega) (by omega)) rfl ?_
          refine xo_rd (rd_move rfl) rfl ?_
          refine xo_nil ?_
        have hl7 : (chA acc ⟨ss, nm⟩).length = ys.length + 1 + (4 - (ys.length + 1) % 4) % 4 := by rw [hcA, fil_len]; simp
        refine xq_tail (xq_roundI (⟨i + 1, s7, k7, l7⟩ : LgS) ⟨by dsimp only; omega, hok' (by omega), by dsimp only; rw [e1]; omega, ?_⟩ (by dsimp only; omega) rfl ?_)
        · dsimp only
          rw [e1, hl7, hcA]
          unfold fil
          rw [show (ys ++ [(0 : Int)]).length = ys.length + 1 from by simp]
          exact hO7
        · dsimp only
          rw [e1, hl7]
          exact (by repeat (first | exact keep_nil | refine keep_cons rfl ?_))
  · have hin' : i = n := by omega
    subst hin'
    rw [List.take_of_length_le (by omega)] at hO hle
    have hnone : ¬ xs.any (fun x => decide (255 < x.nm.size)) = true := fun h => by
      obtain ⟨x, hx, hd⟩ := List.any_eq_true.1 h
      obtain ⟨j, hj, rfl⟩ := List.getElem_of_mem hx
      have := hok j hj (by omega)
      have := of_decide_eq_true hd
      omega
    by_cases h31 : 31 < xs.length
    · rw [show putCh xs = (.zero, 2) from by unfold putCh; rw [if_neg hnone, if_pos h31]]
      focus
        refine xc_seq ?_
        refine xc_region ?_
        refine xo_rd (rd_lss rfl rfl) rfl ?_
        refine xo_nil ?_
        refine xq_seq ?_
        refine xc_seq ?_
        refine xc_dec rfl (fun hq1 => (by exfalso; omega)) (fun hq1 => ?_)
        refine xc_exit ?_
        refine xq_then_exit ?_
        refine xq_then_exit ?_
        refine xq_block_hit ?_
        refine xq_seq ?_
        refine xc_seq ?_
        refine xc_seq ?_
        refine xc_region ?_
        refine xo_rd (rd_move rfl) rfl ?_
        refine xo_rd (rd_len rfl) rfl ?_
        refine xo_rd (rd_gtr rfl rfl) rfl ?_
        refine xo_nil ?_
        refine xq_seq ?_
        refine xc_dec rfl (fun hq2 => ?_) (fun hq2 => (by exfalso; omega))
        refine xc_seq ?_
        refine xc_region ?_
        refine xo_rd (rd_build rfl rfl rfl) rfl ?_
        refine xo_ef rfl (ef_storeB [] _ rfl rfl (by first | rfl | assumption) rfl rfl rfl ?_)
        refine xo_rd (rd_assign rfl) rfl ?_
        refine xo_nil ?_
        refine xq_seq ?_
        refine xc_ret ?_
        refine xq_then_ret ?_
      exact xq_retB2 (.inl rfl) Try.results26 rfl rfl Kn.o0 rfl ((List.sublist_append_right l L).trans (List.sublist_cons_self _ _)) (PuM.err 2)
    · rw [show putCh xs = (⟨xs.length, 202, chunksL xs, 0⟩, 0) from by unfold putCh; rw [if_neg hnone, if_neg h31]]
      rw [List.take_of_length_le (by omega)]
      focus
        refine xc_seq ?_
        refine xc_region ?_
        refine xo_rd (rd_lss rfl rfl) rfl ?_
        refine xo_nil ?_
        refine xq_seq ?_
        refine xc_seq ?_
        refine xc_dec rfl (fun hq1 => (by exfalso; omega)) (fun hq1 => ?_)
        refine xc_exit ?_
        refine xq_then_exit ?_
        refine xq_then_exit ?_
        refine xq_block_hit ?_
        refine xq_seq ?_
        refine xc_seq ?_
        refine xc_seq ?_
        refine xc_region ?_
        refine xo_rd (rd_move rfl) rfl ?_
        refine xo_rd (rd_len rfl) rfl ?_
        refine xo_rd (rd_gtr rfl rfl) rfl ?_
        refine xo_nil ?_
        refine xq_seq ?_
        refine xc_dec rfl (fun hq2 => (by exfalso; omega)) (fun hq2 => ?_)
        refine xc_skip ?_
        refine xq_seq ?_
        refine xc_seq ?_
        refine xc_region ?_
        refine xo_rd (rd_move rfl) rfl ?_
        refine xo_rd (rd_len rfl) rfl ?_
        refine xo_rd (rd_convn rfl (by omega) (by omega)) rfl ?_
        refine xo_rd (rd_move rfl) rfl ?_
        refine xo_rd (rd_build rfl rfl rfl) rfl ?_
        refine xo_ef rfl (ef_storeB [] _ rfl rfl (by first | rfl | assumption) rfl rfl rfl ?_)
        refine xo_rd (rd_assign rfl) rfl ?_
        refine xo_nil ?_
        refine xq_seq ?_
        refine xc_ret ?_
      refine xq_retB2 (.inl rfl) Try.results26 rfl rfl Kn.o0 rfl (List.sublist_cons_self _ _) ⟨⟨⟨xs.length, 202, chunksL xs, 0⟩, s, k, l⟩, ?_, rfl, hO, rfl⟩
      unfold Pb.enc Pc.enc chunksL; dsimp only; rw [hx]; rfl
end Go.Proofs.Ytohlaabclifbfaa.X
