/-
  A packet is read: a walk of my own.
-/
import Derived.Test.YtpcmnbagalhjiaaA3
namespace Go.Proofs.Ytpcmnbagalhjiaa.X
open Go Go.RowKit
set_option linter.unusedVariables false
set_option linter.unusedSimpArgs false
def Pk.enc (p : Pk) (v1 v2 v3 : Value) : List Value := [.bool p.mr, .int .u8 p.ty, .int .u16 p.sq, .int .u32 p.tm, .int .u32 p.ss, v1, .bool p.hx, .int .u16 p.pf, v2, v3, .int .u8 p.pd]
structure PkM (p : Pk) (v1 v2 v3 : Value) (l1 l2 l3 : List Blk) : Prop where
  cs : SlO 1 26 v1 p.cs.length (ints .u32 p.cs) l1
  ex : SlO 1 5 v2 p.ex.length (ints .u8 p.ex) l2
  pl : SlO 1 5 v3 p.pl.length (ints .u8 p.pl) l3
theorem PkM.zero : PkM .zero (.slice none 0 0) (.slice none 0 0) (.slice none 0 0) [] [] [] := ⟨SlO.nil, SlO.nil, SlO.nil⟩
theorem getD_get {l : List Int} {i : Nat} (h : i < l.length) : l.getD i 0 = l[i] := by simp [List.getD_eq_getElem?_getD, h]
theorem Rs.sub2 {W : World} {L L' : List Blk} {b o : Nat} {xs : List Int} (h : Rs W L (some ⟨b, o, none⟩) (ints .u8 xs)) (i n : Nat) (hs : ∀ z, z ∈ L → z ∈ L') : Rs W L' (some ⟨b, o + i * 1, none⟩) (ints .u8 ((xs.drop i).take n)) := by
  rw [Nat.mul_one]
  refine Rs.ints_take ?_ n
  rw [ints_drop]
  exact (h.mono hs).drop i
theorem ints_snoc (k : IntKind) (l : List Int) (x : Int) : ints k (l ++ [x]) = ints k l ++ [.int k x] := by simp [ints]
theorem parseE_len {f : Int} {xs : List Int} {hx : Bool} {pf : Int} {ex r : List Int} (h : parseE f xs = some (hx, pf, ex, r)) : r.length ≤ xs.length := by
  unfold parseE at h
  split at h
  · split at h
    · cases h
    · split at h
      · cases h
      · simp only [Option.some.injEq, Prod.mk.injEq] at h
        rw [← h.2.2.2]; simp
  · simp only [Option.some.injEq, Prod.mk.injEq] at h
    rw [← h.2.2.2]; exact Nat.le_refl _
theorem parseE_mem {f : Int} {xs : List Int} {hx : Bool} {pf : Int} {ex r : List Int} (h : parseE f xs = some (hx, pf, ex, r)) (hb : ∀ x, x ∈ xs → By x) : ∀ x, x ∈ r → By x := by
  unfold parseE at h
  split at h
  · split at h
    · cases h
    · split at h
      · cases h
      · simp only [Option.some.injEq, Prod.mk.injEq] at h
        rw [← h.2.2.2]; exact By.drop (By.drop hb _) _
  · simp only [Option.some.injEq, Prod.mk.injEq] at h
    rw [← h.2.2.2]; exact hb
structure ExS where
  hx : Bool
  pf : Int
  ex : List Int
  r : List Int
  p : Option Addr
  c : Nat
  v : Value
  l : List Blk
structure PdS where
  pl : List Int
  pd : Int
  p : Option Addr
  c : Nat
structure PsS where
  j : Nat
  p : Option Addr
  c : Nat
  v : Value
  l : List Blk
set_option maxHeartbeats 4000000 in
theorem xf_parse {W : World} {L : List Blk} (p : Option Addr) (m c : Nat) (bs : List Int) (hx : bs.length = m) (hr : Rs W L p (ints .u8 bs)) (hb : ∀ x, x ∈ bs → By x) (hc : m ≤ c) (hm : m ≤ 1000000000) :
    XF Try.prog W 10 #[.slice p m c] L (fun v L' => ∃ v1 v2 v3 l1 l2 l3, v = .tuple #[.agg ((parseL bs).2.enc v1 v2 v3).toArray, .int .i64 (parseL bs).1] ∧ PkM (parseL bs).2 v1 v2 v3 l1 l2 l3 ∧ L' = l1 ++ (l2 ++ (l3 ++ L))) := by
  refine xf_enter (args := [_]) Try.func10 rfl Try.ntmps10 rfl ?_
  by_cases h12 : m < 12
  · rw [show parseL bs = (10, .zero) from by unfold parseL; rw [if_pos (by omega)]]
    focus
      refine xc_seq ?_
      refine xc_region ?_
      refine xo_ef rfl (ef_alloc fun r2 => ?_)
      refine xo_rd (rd_assign rfl) rfl ?_
      refine xo_nil ?_
      refine xq_seq ?_
      refine xc_seq ?_
      refine xc_region ?_
      refine xo_rd (rd_move rfl) rfl ?_
      refine xo_ef rfl (ef_call rfl (XF.mono (xf_cutN p m c 12 12 rfl hc (by omega) h12) ?_))
      rintro v L' ⟨rfl, rfl⟩
      refine xo_rd (rd_move rfl) rfl ?_
      refine xo_rd (rd_extract rfl rfl) rfl ?_
      refine xo_rd (rd_extract rfl rfl) rfl ?_
      refine xo_rd (rd_extract rfl rfl) rfl ?_
      refine xo_rd (rd_assign rfl) rfl ?_
      refine xo_rd (rd_assign rfl) rfl ?_
      refine xo_rd (rd_assign rfl) rfl ?_
      refine xo_nil ?_
      refine xq_seq ?_
      refine xc_seq ?_
      refine xc_block ?_
      refine xc_seq ?_
      refine xc_region ?_
      refine xo_rd (rd_move rfl) rfl ?_
      refine xo_rd (rd_not rfl) rfl ?_
      refine xo_rd (rd_assign rfl) rfl ?_
      refine xo_nil ?_
      refine xq_seq ?_
      refine xc_condt rfl ?_
      refine xc_seq ?_
      refine xc_region ?_
      refine xo_rd (rd_build rfl rfl rfl) rfl ?_
      refine xo_ef rfl (ef_storeB [] _ rfl rfl (by first | rfl | assumption) rfl rfl rfl ?_)
      refine xo_rd (rd_assign rfl) rfl ?_
      refine xo_nil ?_
      refine xq_seq ?_
      refine xc_ret ?_
      refine xq_block_ret ?_
      refine xq_then_ret ?_
    exact xq_retB2 (.inl rfl) Try.results10 rfl rfl Kn.o0 rfl (List.sublist_cons_self _ _) ⟨_, _, _, [], [], [], rfl, PkM.zero, rfl⟩
  obtain ⟨b, o, rfl, hc0⟩ := hr.int (i := 0) (by omega)
  have hcell : ∀ i, (hi : i < bs.length) → ∀ L', (∀ z, z ∈ L → z ∈ L') → Cl W L' b (o + i * 1) (.int .u8 bs[i]) := fun i hi L' hL' => by
    obtain ⟨b', o', he, hci⟩ := (hr.mono hL').int hi
    simp only [Option.some.injEq, Addr.mk.injEq, and_true] at he
    obtain ⟨rfl, rfl⟩ := he
    exact hci
  have hb0 := hb bs[0] (List.getElem_mem _)
  have hb1 := hb bs[1] (List.getElem_mem _)
  unfold By at hb0 hb1
  have hg0 : bs.getD 0 0 = bs[0] := getD_get (by omega)
  have hg1 : bs.getD 1 0 = bs[1] := getD_get (by omega)
  obtain ⟨f0, hf0⟩ : ∃ f, f = bs[0] := ⟨_, rfl⟩
  obtain ⟨f1, hf1⟩ : ∃ f, f = bs[1] := ⟨_, rfl⟩
  have hc0 := fun L' h => hcell 0 (by omega) L' h
  have hc1 := fun L' h => hcell 1 (by omega) L' h
  rw [← hf0] at hb0 hc0 hg0
  rw [← hf1] at hb1 hc1 hg1
  clear hcell
  focus
    refine xc_seq ?_
    refine xc_region ?_
    refine xo_ef rfl (ef_alloc fun r2 => ?_)
    refine xo_rd (rd_assign rfl) rfl ?_
    refine xo_nil ?_
    refine xq_seq ?_
    refine xc_seq ?_
    refine xc_region ?_
    refine xo_rd (rd_move rfl) rfl ?_
    refine xo_ef rfl (ef_call rfl (XF.mono (xf_cutY (some ⟨b, o, none⟩) m c bs 12 12 rfl hx hc (by omega) (by omega)) ?_))
    rintro v L' ⟨p1, c1, rfl, hr1, hcc1, rfl⟩
    refine xo_rd (rd_move rfl) rfl ?_
    refine xo_rd (rd_extract rfl rfl) rfl ?_
    refine xo_rd (rd_extract rfl rfl) rfl ?_
    refine xo_rd (rd_extract rfl rfl) rfl ?_
    refine xo_rd (rd_assign rfl) rfl ?_
    refine xo_rd (rd_assign rfl) rfl ?_
    refine xo_rd (rd_assign rfl) rfl ?_
    refine xo_nil ?_
    refine xq_seq ?_
    refine xc_seq ?_
    refine xc_block ?_
    refine xc_seq ?_
    refine xc_region ?_
    refine xo_rd (rd_move rfl) rfl ?_
    refine xo_rd (rd_not rfl) rfl ?_
    refine xo_rd (rd_assign rfl) rfl ?_
    refine xo_nil ?_
    refine xq_seq ?_
    refine xc_condf rfl ?_
    refine xc_seq ?_
    refine xc_region ?_
    refine xo_rd (rd_move rfl) rfl ?_
    refine xo_rd (rd_indexAddr rfl rfl (by omega) (by omega)) rfl ?_
    refine xo_rd (rd_load1 rfl (hc0 _ (by intro z hz; simp [hz]))) rfl ?_
    refine xo_rd (rd_cast (v' := .int .u8 (f0 / 64)) (rd_shr rfl rfl (by decide) (by decide)) rfl) rfl ?_
    refine xo_rd (rd_neq rfl rfl) rfl ?_
    refine xo_rd (rd_assign rfl) rfl ?_
    refine xo_nil ?_
    refine xq_seq ?_
    refine xc_ndec rfl (fun hq1 => ?_) (fun hq1 => ?_)
    refine xc_seq ?_
    refine xc_region ?_
    refine xo_rd (rd_build rfl rfl rfl) rfl ?_
    refine xo_ef rfl (ef_storeB [] _ rfl rfl (by first | rfl | assumption) rfl rfl rfl ?_)
    refine xo_rd (rd_assign rfl) rfl ?_
    refine xo_nil ?_
    refine xq_seq ?_
    refine xc_ret ?_
    refine xq_block_ret ?_
    refine xq_then_ret ?_
    rotate_left
    refine xc_skip ?_
    refine xq_block ?_
    refine xq_seq ?_
    rotate_left
  · rw [show parseL bs = (20, .zero) from by unfold parseL; rw [if_neg (by omega), hg0, if_pos (by assumption)]]
    exact xq_retB2 (.inl rfl) Try.results10 rfl rfl Kn.o0 rfl (List.sublist_cons_self _ _) ⟨_, _, _, [], [], [], rfl, PkM.zero, rfl⟩
  have hv2 := vl_u2 ((bs.drop 2).take 2) (By.take (By.drop hb 2) 2) (by simp; omega)
  refine xc_join (ι := Nat) (fun _ => True) (fun r7 => [(r7, .cells #[.bool (decide (128 ≤ f1)), .int .u8 (f1 % 128), .int .u16 (vl ((bs.drop 2).take 2)), .int .u32 (vl ((bs.drop 4).take 4)), .int .u32 (vl ((bs.drop 8).take 4)), .slice none 0 0, .bool false, .int .u16 0, .slice none 0 0, .slice none 0 0, .int .u8 0] 33 (0, 0)), (r2, .cells #[.bool false, .int .u8 0, .int .u16 0, .int .u32 0, .int .u32 0, .slice none 0 0, .bool false, .int .u16 0, .slice none 0 0, .slice none 0 0, .int .u8 0] 33 (0, 0))] ++ L) (fun r7 => [(2, .pointer (some ⟨r2, 0, none⟩)), (4, .slice (some ⟨b, o, none⟩) 12 c), (5, .slice p1 (m - 12) c1), (7, .pointer (some ⟨r7, 0, none⟩))]) ?_ ?_
  · skip
    focus
      refine xc_drawML [0, 1, 2, 4, 8, 0, 32, 64, 128, 0, 512, 1024, 2048, 0, 8192, 18432, 0, 65536, 163840, 299280, 0, 2097151] [0, 1, 2, 4, 8, 0, 32, 64, 128, 0, 512, 1024, 2048, 0, 8192, 18432, 0, 65536, 163840, 299280, 0, 2097151] (by kernel_rfl) (by kernel_rfl) (by kernel_rfl) ?_
      refine xm_take 0 (m' := 1) rfl (by kernel_rfl) (by first | exact Sb.refl | exact Sb.nil | (repeat (first | exact Sb.nil | exact Sb.refl | exact Sb.app0 | apply Sb.keep | apply Sb.keepApp | apply Sb.cons | apply Sb.app))) (rd_move rfl) rfl (by kernel_rfl) ?_
      refine xm_take 1 (m' := 3) rfl (by kernel_rfl) (by first | exact Sb.refl | exact Sb.nil | (repeat (first | exact Sb.nil | exact Sb.refl | exact Sb.app0 | apply Sb.keep | apply Sb.keepApp | apply Sb.cons | apply Sb.app))) (rd_indexAddr rfl rfl (by omega) (by omega)) rfl (by kernel_rfl) ?_
      refine xm_take 2 (m' := 7) rfl (by kernel_rfl) (by first | exact Sb.refl | exact Sb.nil | (repeat (first | exact Sb.nil | exact Sb.refl | exact Sb.app0 | apply Sb.keep | apply Sb.keepApp | apply Sb.cons | apply Sb.app))) (rd_load1 rfl (hc1 _ (by intro z hz; simp [hz]))) rfl (by kernel_rfl) ?_
      refine xm_take 3 (m' := 15) rfl (by kernel_rfl) (by first | exact Sb.refl | exact Sb.nil | (repeat (first | exact Sb.nil | exact Sb.refl | exact Sb.app0 | apply Sb.keep | apply Sb.keepApp | apply Sb.cons | apply Sb.app))) (rd_cast (v' := .int .u8 (if 128 ≤ f1 then 128 else 0)) (rd_and rfl rfl) (by rw [and8_128 f1 hb1.1 hb1.2])) rfl (by kernel_rfl) ?_
      refine xm_take 4 (m' := 31) rfl (by kernel_rfl) (by first | exact Sb.refl | exact Sb.nil | (repeat (first | exact Sb.nil | exact Sb.refl | exact Sb.app0 | apply Sb.keep | apply Sb.keepApp | apply Sb.cons | apply Sb.app))) (rd_cast (v' := .bool (decide (128 ≤ f1))) (rd_neq rfl rfl) (by by_cases h : 128 ≤ f1 <;> simp [h])) rfl (by kernel_rfl) ?_
      refine xm_take 5 (m' := 63) rfl (by kernel_rfl) (by first | exact Sb.refl | exact Sb.nil | (repeat (first | exact Sb.nil | exact Sb.refl | exact Sb.app0 | apply Sb.keep | apply Sb.keepApp | apply Sb.cons | apply Sb.app))) (rd_move rfl) rfl (by kernel_rfl) ?_
      refine xm_take 6 (m' := 127) rfl (by kernel_rfl) (by first | exact Sb.refl | exact Sb.nil | (repeat (first | exact Sb.nil | exact Sb.refl | exact Sb.app0 | apply Sb.keep | apply Sb.keepApp | apply Sb.cons | apply Sb.app))) (rd_indexAddr rfl rfl (by omega) (by omega)) rfl (by kernel_rfl) ?_
      refine xm_take 7 (m' := 255) rfl (by kernel_rfl) (by first | exact Sb.refl | exact Sb.nil | (repeat (first | exact Sb.nil | exact Sb.refl | exact Sb.app0 | apply Sb.keep | apply Sb.keepApp | apply Sb.cons | apply Sb.app))) (rd_load1 rfl (hc1 _ (by intro z hz; simp [hz]))) rfl (by kernel_rfl) ?_
      refine xm_take 8 (m' := 511) rfl (by kernel_rfl) (by first | exact Sb.refl | exact Sb.nil | (repeat (first | exact Sb.nil | exact Sb.refl | exact Sb.app0 | apply Sb.keep | apply Sb.keepApp | apply Sb.cons | apply Sb.app))) (rd_cast (v' := .int .u8 (f1 % 128)) (rd_andNot rfl rfl) (by rw [andNot8_128 f1 hb1.1 hb1.2])) rfl (by kernel_rfl) ?_
      refine xm_take 9 (m' := 1023) rfl (by kernel_rfl) (by first | exact Sb.refl | exact Sb.nil | (repeat (first | exact Sb.nil | exact Sb.refl | exact Sb.app0 | apply Sb.keep | apply Sb.keepApp | apply Sb.cons | apply Sb.app))) (rd_move rfl) rfl (by kernel_rfl) ?_
      refine xm_take 10 (m' := 2047) rfl (by kernel_rfl) (by first | exact Sb.refl | exact Sb.nil | (repeat (first | exact Sb.nil | exact Sb.refl | exact Sb.app0 | apply Sb.keep | apply Sb.keepApp | apply Sb.cons | apply Sb.app))) (rd_slice rfl rfl rfl (by omega) (by omega) (by omega) (by omega)) rfl (by kernel_rfl) ?_
      refine xm_take 13 (m' := 10239) rfl (by kernel_rfl) (by first | exact Sb.refl | exact Sb.nil | (repeat (first | exact Sb.nil | exact Sb.refl | exact Sb.app0 | apply Sb.keep | apply Sb.keepApp | apply Sb.cons | apply Sb.app))) (rd_move rfl) rfl (by kernel_rfl) ?_
      refine xm_take 14 (m' := 26623) rfl (by kernel_rfl) (by first | exact Sb.refl | exact Sb.nil | (repeat (first | exact Sb.nil | exact Sb.refl | exact Sb.app0 | apply Sb.keep | apply Sb.keepApp | apply Sb.cons | apply Sb.app))) (rd_slice rfl rfl rfl (by omega) (by omega) (by omega) (by omega)) rfl (by kernel_rfl) ?_
      refine xm_take 16 (m' := 92159) rfl (by kernel_rfl) (by first | exact Sb.refl | exact Sb.nil | (repeat (first | exact Sb.nil | exact Sb.refl | exact Sb.app0 | apply Sb.keep | apply Sb.keepApp | apply Sb.cons | apply Sb.app))) (rd_move rfl) rfl (by kernel_rfl) ?_
      refine xm_take 17 (m' := 223231) rfl (by kernel_rfl) (by first | exact Sb.refl | exact Sb.nil | (repeat (first | exact Sb.nil | exact Sb.refl | exact Sb.app0 | apply Sb.keep | apply Sb.keepApp | apply Sb.cons | apply Sb.app))) (rd_sliceLo rfl rfl (by omega) (by omega) (by omega)) rfl (by kernel_rfl) ?_
      refine xm_two 11 20 (mi := 225279) (mk := 1271807) rfl rfl (by kernel_rfl) rfl rfl (by kernel_rfl) (by kernel_rfl) (ef_call rfl (XF.mono (xf_number (some ⟨b, o + 2 * 1, none⟩) 2 (c - 2) ((bs.drop 2).take 2) (by simp; omega) (hr.sub2 2 2 (by intro z hz; simp [hz])) (By.take (By.drop hb 2) 2) (by omega)) ?_)) (ef_alloc fun r7 => ⟨(by first | exact Sb.refl | exact Sb.nil | (repeat (first | exact Sb.nil | exact Sb.refl | exact Sb.app0 | apply Sb.keep | apply Sb.keepApp | apply Sb.cons | apply Sb.app))), ?_⟩)
      rotate_left
      rotate_right
      rintro v L' ⟨rfl, rfl⟩
      refine ⟨(by first | exact Sb.refl | exact Sb.nil | (repeat (first | exact Sb.nil | exact Sb.refl | exact Sb.app0 | apply Sb.keep | apply Sb.keepApp | apply Sb.cons | apply Sb.app))), ?_⟩
      refine xm_take 12 (m' := 229375) rfl (by kernel_rfl) (by first | exact Sb.refl | exact Sb.nil | (repeat (first | exact Sb.nil | exact Sb.refl | exact Sb.app0 | apply Sb.keep | apply Sb.keepApp | apply Sb.cons | apply Sb.app))) (rd_convn rfl (by omega) (by omega)) rfl (by kernel_rfl) ?_
      refine xm_two 15 20 (mi := 262143) (mk := 1277951) rfl rfl (by kernel_rfl) rfl rfl (by kernel_rfl) (by kernel_rfl) (ef_call rfl (XF.mono (xf_number (some ⟨b, o + 4 * 1, none⟩) 4 (c - 4) ((bs.drop 4).take 4) (by simp; omega) (hr.sub2 4 4 (by intro z hz; simp [hz])) (By.take (By.drop hb 4) 4) (by omega)) ?_)) (ef_alloc fun r7 => ⟨(by first | exact Sb.refl | exact Sb.nil | (repeat (first | exact Sb.nil | exact Sb.refl | exact Sb.app0 | apply Sb.keep | apply Sb.keepApp | apply Sb.cons | apply Sb.app))), ?_⟩)
      rotate_left
      rotate_right
      rintro v L' ⟨rfl, rfl⟩
      refine ⟨(by first | exact Sb.refl | exact Sb.nil | (repeat (first | exact Sb.nil | exact Sb.refl | exact Sb.app0 | apply Sb.keep | apply Sb.keepApp | apply Sb.cons | apply Sb.app))), ?_⟩
      refine xm_two 18 20 (mi := 524287) (mk := 1310719) rfl rfl (by kernel_rfl) rfl rfl (by kernel_rfl) (by kernel_rfl) (ef_call rfl (XF.mono (xf_number (some ⟨b, o + 8 * 1, none⟩) 4 (c - 8) ((bs.drop 8).take 4) (by simp; omega) (hr.sub2 8 4 (by intro z hz; simp [hz])) (By.take (By.drop hb 8) 4) (by omega)) ?_)) (ef_alloc fun r7 => ⟨(by first | exact Sb.refl | exact Sb.nil | (repeat (first | exact Sb.nil | exact Sb.refl | exact Sb.app0 | apply Sb.keep | apply Sb.keepApp | apply Sb.cons | apply Sb.app))), ?_⟩)
      rotate_left
      rotate_right
      rintro v L' ⟨rfl, rfl⟩
      refine ⟨(by first | exact Sb.refl | exact Sb.nil | (repeat (first | exact Sb.nil | exact Sb.refl | exact Sb.app0 | apply Sb.keep | apply Sb.keepApp | apply Sb.cons | apply Sb.app))), ?_⟩
      refine xm_take 19 (m' := 1048575) rfl (by kernel_rfl) (by first | exact Sb.refl | exact Sb.nil | (repeat (first | exact Sb.nil | exact Sb.refl | exact Sb.app0 | apply Sb.keep | apply Sb.keepApp | apply Sb.cons | apply Sb.app))) (rd_build rfl rfl rfl) rfl (by kernel_rfl) ?_
      refine xm_one 20 (m' := 2097151) rfl (by kernel_rfl) rfl (by kernel_rfl) (ef_alloc fun r7 => ?_)
      refine ⟨(by first | exact Sb.refl | exact Sb.nil | (repeat (first | exact Sb.nil | exact Sb.refl | exact Sb.app0 | apply Sb.keep | apply Sb.keepApp | apply Sb.cons | apply Sb.app))), ?_⟩
      refine xm_one 21 (m' := 4194303) rfl (by kernel_rfl) rfl (by kernel_rfl) (ef_storeB [] _ rfl rfl (by first | rfl | assumption) rfl rfl rfl ?_)
      refine ⟨(by first | exact Sb.refl | exact Sb.nil | (repeat (first | exact Sb.nil | exact Sb.refl | exact Sb.app0 | apply Sb.keep | apply Sb.keepApp | apply Sb.cons | apply Sb.app))), ?_⟩
      refine xm_done (by kernel_rfl) ?_
      rotate_left
      refine xm_one 18 (m' := 1572863) rfl (by kernel_rfl) rfl (by kernel_rfl) (ef_call rfl (XF.mono (xf_number (some ⟨b, o + 8 * 1, none⟩) 4 (c - 8) ((bs.drop 8).take 4) (by simp; omega) (hr.sub2 8 4 (by intro z hz; simp [hz])) (By.take (By.drop hb 8) 4) (by omega)) ?_))
      rintro v L' ⟨rfl, rfl⟩
      refine ⟨(by first | exact Sb.refl | exact Sb.nil | (repeat (first | exact Sb.nil | exact Sb.refl | exact Sb.app0 | apply Sb.keep | apply Sb.keepApp | apply Sb.cons | apply Sb.app))), ?_⟩
      refine xm_take 19 (m' := 2097151) rfl (by kernel_rfl) (by first | exact Sb.refl | exact Sb.nil | (repeat (first | exact Sb.nil | exact Sb.refl | exact Sb.app0 | apply Sb.keep | apply Sb.keepApp | apply Sb.cons | apply Sb.app))) (rd_build rfl rfl rfl) rfl (by kernel_rfl) ?_
      refine xm_one 21 (m' := 4194303) rfl (by kernel_rfl) rfl (by kernel_rfl) (ef_storeB [] _ rfl rfl (by first | rfl | assumption) rfl rfl rfl ?_)
      refine ⟨(by first | exact Sb.refl | exact Sb.nil | (repeat (first | exact Sb.nil | exact Sb.refl | exact Sb.app0 | apply Sb.keep | apply Sb.keepApp | apply Sb.cons | apply Sb.app))), ?_⟩
      refine xm_done (by kernel_rfl) ?_
      rotate_left
      refine xm_one 15 (m' := 1310719) rfl (by kernel_rfl) rfl (by kernel_rfl) (ef_call rfl (XF.mono (xf_number (some ⟨b, o + 4 * 1, none⟩) 4 (c - 4) ((bs.drop 4).take 4) (by simp; omega) (hr.sub2 4 4 (by intro z hz; simp [hz])) (By.take (By.drop hb 4) 4) (by omega)) ?_))
      rintro v L' ⟨rfl, rfl⟩
      refine ⟨(by first | exact Sb.refl | exact Sb.nil | (repeat (first | exact Sb.nil | exact Sb.refl | exact Sb.app0 | apply Sb.keep | apply Sb.keepApp | apply Sb.cons | apply Sb.app))), ?_⟩
      refine xm_one 18 (m' := 1572863) rfl (by kernel_rfl) rfl (by kernel_rfl) (ef_call rfl (XF.mono (xf_number (some ⟨b, o + 8 * 1, none⟩) 4 (c - 8) ((bs.drop 8).take 4) (by simp; omega) (hr.sub2 8 4 (by intro z hz; simp [hz])) (By.take (By.drop hb 8) 4) (by omega)) ?_))
      rintro v L' ⟨rfl, rfl⟩
      refine ⟨(by first | exact Sb.refl | exact Sb.nil | (repeat (first | exact Sb.nil | exact Sb.refl | exact Sb.app0 | apply Sb.keep | apply Sb.keepApp | apply Sb.cons | apply Sb.app))), ?_⟩
      refine xm_take 19 (m' := 2097151) rfl (by kernel_rfl) (by first | exact Sb.refl | exact Sb.nil | (repeat (first | exact Sb.nil | exact Sb.refl | exact Sb.app0 | apply Sb.keep | apply Sb.keepApp | apply Sb.cons | apply Sb.app))) (rd_build rfl rfl rfl) rfl (by kernel_rfl) ?_
      refine xm_one 21 (m' := 4194303) rfl (by kernel_rfl) rfl (by kernel_rfl) (ef_storeB [] _ rfl rfl (by first | rfl | assumption) rfl rfl rfl ?_)
      refine ⟨(by first | exact Sb.refl | exact Sb.nil | (repeat (first | exact Sb.nil | exact Sb.refl | exact Sb.app0 | apply Sb.keep | apply Sb.keepApp | apply Sb.cons | apply Sb.app))), ?_⟩
      refine xm_done (by kernel_rfl) ?_
      rotate_left
      refine xm_one 11 (m' := 1273855) rfl (by kernel_rfl) rfl (by kernel_rfl) (ef_call rfl (XF.mono (xf_number (some ⟨b, o + 2 * 1, none⟩) 2 (c - 2) ((bs.drop 2).take 2) (by simp; omega) (hr.sub2 2 2 (by intro z hz; simp [hz])) (By.take (By.drop hb 2) 2) (by omega)) ?_))
      rintro v L' ⟨rfl, rfl⟩
      refine ⟨(by first | exact Sb.refl | exact Sb.nil | (repeat (first | exact Sb.nil | exact Sb.refl | exact Sb.app0 | apply Sb.keep | apply Sb.keepApp | apply Sb.cons | apply Sb.app))), ?_⟩
      refine xm_take 12 (m' := 1277951) rfl (by kernel_rfl) (by first | exact Sb.refl | exact Sb.nil | (repeat (first | exact Sb.nil | exact Sb.refl | exact Sb.app0 | apply Sb.keep | apply Sb.keepApp | apply Sb.cons | apply Sb.app))) (rd_convn rfl (by omega) (by omega)) rfl (by kernel_rfl) ?_
      refine xm_one 15 (m' := 1310719) rfl (by kernel_rfl) rfl (by kernel_rfl) (ef_call rfl (XF.mono (xf_number (some ⟨b, o + 4 * 1, none⟩) 4 (c - 4) ((bs.drop 4).take 4) (by simp; omega) (hr.sub2 4 4 (by intro z hz; simp [hz])) (By.take (By.drop hb 4) 4) (by omega)) ?_))
      rintro v L' ⟨rfl, rfl⟩
      refine ⟨(by first | exact Sb.refl | exact Sb.nil | (repeat (first | exact Sb.nil | exact Sb.refl | exact Sb.app0 | apply Sb.keep | apply Sb.keepApp | apply Sb.cons | apply Sb.app))), ?_⟩
      refine xm_one 18 (m' := 1572863) rfl (by kernel_rfl) rfl (by kernel_rfl) (ef_call rfl (XF.mono (xf_number (some ⟨b, o + 8 * 1, none⟩) 4 (c - 8) ((bs.drop 8).take 4) (by simp; omega) (hr.sub2 8 4 (by intro z hz; simp [hz])) (By.take (By.drop hb 8) 4) (by omega)) ?_))
      rintro v L' ⟨rfl, rfl⟩
      refine ⟨(by first | exact Sb.refl | exact Sb.nil | (repeat (first | exact Sb.nil | exact Sb.refl | exact Sb.app0 | apply Sb.keep | apply Sb.keepApp | apply Sb.cons | apply Sb.app))), ?_⟩
      refine xm_take 19 (m' := 2097151) rfl (by kernel_rfl) (by first | exact Sb.refl | exact Sb.nil | (repeat (first | exact Sb.nil | exact Sb.refl | exact Sb.app0 | apply Sb.keep | apply Sb.keepApp | apply Sb.cons | apply Sb.app))) (rd_build rfl rfl rfl) rfl (by kernel_rfl) ?_
      refine xm_one 21 (m' := 4194303) rfl (by kernel_rfl) rfl (by kernel_rfl) (ef_storeB [] _ rfl rfl (by first | rfl | assumption) rfl rfl rfl ?_)
      refine ⟨(by first | exact Sb.refl | exact Sb.nil | (repeat (first | exact Sb.nil | exact Sb.refl | exact Sb.app0 | apply Sb.keep | apply Sb.keepApp | apply Sb.cons | apply Sb.app))), ?_⟩
      refine xm_done (by kernel_rfl) ?_
      rotate_left
    all_goals exact xq_joined r7 trivial rfl (by repeat (first | exact keep_nil | refine keep_cons rfl ?_))
  · rintro r7 _
    obtain ⟨mn, hmn⟩ : ∃ mn : Nat, f0 % 16 = mn := ⟨(f0 % 16).toNat, by omega⟩
    have hmn2 : (f0 % 16).toNat = mn := by omega
    have hps : (bs.drop 12).length < 4 * mn → parseL bs = (10, .zero) := fun h1 => by
      unfold parseL; rw [if_neg (by omega), hg0, if_neg (by omega), hmn2, if_pos h1]
    refine xc_join (ι := PsS) (fun s => s.j = mn ∧ 12 + 4 * s.j ≤ m ∧ m - 12 - 4 * s.j ≤ s.c ∧ Rs W L s.p (ints .u8 (bs.drop (12 + 4 * s.j))) ∧ SlO 1 26 s.v s.j (ints .u32 (chunks s.j (bs.drop 12))) s.l) (fun s => (r7, .cells #[.bool (decide (128 ≤ f1)), .int .u8 (f1 % 128), .int .u16 (vl ((bs.drop 2).take 2)), .int .u32 (vl ((bs.drop 4).take 4)), .int .u32 (vl ((bs.drop 8).take 4)), s.v, .bool false, .int .u16 0, .slice none 0 0, .slice none 0 0, .int .u8 0] 33 (0, 0)) :: (r2, .cells #[.bool false, .int .u8 0, .int .u16 0, .int .u32 0, .int .u32 0, .slice none 0 0, .bool false, .int .u16 0, .slice none 0 0, .slice none 0 0, .int .u8 0] 33 (0, 0)) :: (s.l ++ L)) (fun s => [(2, .pointer (some ⟨r2, 0, none⟩)), (4, .slice (some ⟨b, o, none⟩) 12 c), (5, .slice s.p (m - 12 - 4 * s.j) s.c), (7, .pointer (some ⟨r7, 0, none⟩))]) ?_ ?_
    · skip
      focus
        refine xc_seq ?_
        refine xc_region ?_
        refine xo_rd (rd_move rfl) rfl ?_
        refine xo_rd (rd_indexAddr rfl rfl (by omega) (by omega)) rfl ?_
        refine xo_rd (rd_load1 rfl (hc0 _ (by intro z hz; simp [hz]))) rfl ?_
        refine xo_rd (rd_cast (v' := .int .u8 mn) (rd_and rfl rfl) (by rw [and8_15 f0 hb0.1 hb0.2, hmn])) rfl ?_
        refine xo_rd (rd_move rfl) rfl ?_
        refine xo_nil ?_
        refine xq_seq ?_
        refine xc_block ?_
      refine xc_loopI (ι := PsS) (fun s => s.j ≤ mn ∧ 12 + 4 * s.j ≤ m ∧ m - 12 - 4 * s.j ≤ s.c ∧ Rs W L s.p (ints .u8 (bs.drop (12 + 4 * s.j))) ∧ SlO 1 26 s.v s.j (ints .u32 (chunks s.j (bs.drop 12))) s.l) (fun s => mn - s.j) (fun s => (r7, .cells #[.bool (decide (128 ≤ f1)), .int .u8 (f1 % 128), .int .u16 (vl ((bs.drop 2).take 2)), .int .u32 (vl ((bs.drop 4).take 4)), .int .u32 (vl ((bs.drop 8).take 4)), s.v, .bool false, .int .u16 0, .slice none 0 0, .slice none 0 0, .int .u8 0] 33 (0, 0)) :: (r2, .cells #[.bool false, .int .u8 0, .int .u16 0, .int .u32 0, .int .u32 0, .slice none 0 0, .bool false, .int .u16 0, .slice none 0 0, .slice none 0 0, .int .u8 0] 33 (0, 0)) :: (s.l ++ L)) (fun s => [(2, .pointer (some ⟨r2, 0, none⟩)), (4, .slice (some ⟨b, o, none⟩) 12 c), (5, .slice s.p (m - 12 - 4 * s.j) s.c), (7, .pointer (some ⟨r7, 0, none⟩)), (50, .int .u8 mn), (51, .int .u8 s.j)]) ⟨0, p1, c1, .slice none 0 0, []⟩ ⟨Nat.zero_le _, by dsimp only; omega, by dsimp only; omega, by dsimp only; exact hr1 _ hr, SlO.nil⟩ rfl (by repeat (first | exact keep_nil | refine keep_cons rfl ?_)) ?_
      rintro ⟨j, pj, cj, vj, lj⟩ ⟨hj, hjm, hjc, hrj, hOj⟩
      dsimp only at hj hjm hjc hrj hOj ⊢
      by_cases h4 : m - 12 - 4 * j < 4
      · skip
        focus
          refine xc_seq ?_
          refine xc_region ?_
          refine xo_rd (rd_lss rfl rfl) rfl ?_
          refine xo_nil ?_
          refine xq_seq ?_
          refine xc_seq ?_
          refine xc_dec rfl (fun hw1 => ?_) (fun hw1 => ?_)
          refine xc_skip ?_
          refine xq_seq ?_
          refine xc_seq ?_
          refine xc_block ?_
          refine xc_seq ?_
          refine xc_region ?_
          refine xo_rd (rd_assign rfl) rfl ?_
          refine xo_nil ?_
          refine xq_seq ?_
          refine xc_seq ?_
          refine xc_seq ?_
          refine xc_region ?_
          refine xo_rd (rd_move rfl) rfl ?_
          refine xo_ef rfl (ef_call rfl (XF.mono (xf_cutN pj (m - 12 - 4 * j) cj 4 4 rfl hjc (by omega) h4) ?_))
          rintro v L' ⟨rfl, rfl⟩
          refine xo_rd (rd_move rfl) rfl ?_
          refine xo_rd (rd_extract rfl rfl) rfl ?_
          refine xo_rd (rd_extract rfl rfl) rfl ?_
          refine xo_rd (rd_extract rfl rfl) rfl ?_
          refine xo_rd (rd_assign rfl) rfl ?_
          refine xo_rd (rd_assign rfl) rfl ?_
          refine xo_rd (rd_assign rfl) rfl ?_
          refine xo_nil ?_
          refine xq_seq ?_
          refine xc_seq ?_
          refine xc_region ?_
          refine xo_rd (rd_move rfl) rfl ?_
          refine xo_rd (rd_not rfl) rfl ?_
          refine xo_nil ?_
          refine xq_seq ?_
          refine xc_condt rfl ?_
          refine xc_seq ?_
          refine xc_region ?_
          refine xo_rd (rd_build rfl rfl rfl) rfl ?_
          refine xo_ef rfl (ef_storeB [_] _ rfl rfl (by first | rfl | assumption) rfl rfl rfl ?_)
          refine xo_rd (rd_assign rfl) rfl ?_
          refine xo_nil ?_
          refine xq_seq ?_
          refine xc_ret ?_
          refine xq_then_ret ?_
          refine xq_block_ret ?_
          refine xq_then_ret ?_
          refine xq_then_ret ?_
          refine xq_block_ret ?_
          refine xq_then_ret ?_
          rotate_left
          refine xc_exit ?_
          refine xq_then_exit ?_
          refine xq_then_exit ?_
          refine xq_block_hit ?_
          rotate_left
        · rw [hps (by rw [List.length_drop]; omega)]
          exact xq_retB2 (L' := L) (.inl rfl) Try.results10 rfl rfl Kn.o1 rfl ((List.sublist_append_right lj L).trans ((List.sublist_cons_self _ _).trans (List.sublist_cons_self _ _))) ⟨_, _, _, [], [], [], rfl, PkM.zero, rfl⟩
        · exact xq_joined (⟨j, pj, cj, vj, lj⟩ : PsS) ⟨by dsimp only; omega, hjm, hjc, hrj, hOj⟩ rfl (by repeat (first | exact keep_nil | refine keep_cons rfl ?_))
      · skip
        focus
          refine xc_seq ?_
          refine xc_region ?_
          refine xo_rd (rd_lss rfl rfl) rfl ?_
          refine xo_nil ?_
          refine xq_seq ?_
          refine xc_seq ?_
          refine xc_dec rfl (fun hw1 => ?_) (fun hw1 => ?_)
          refine xc_skip ?_
          refine xq_seq ?_
          refine xc_seq ?_
          refine xc_block ?_
          refine xc_seq ?_
          refine xc_region ?_
          refine xo_rd (rd_assign rfl) rfl ?_
          refine xo_nil ?_
          refine xq_seq ?_
          refine xc_seq ?_
          refine xc_seq ?_
          refine xc_region ?_
          refine xo_rd (rd_move rfl) rfl ?_
          refine xo_ef rfl (ef_call rfl (XF.mono (xf_cutY pj (m - 12 - 4 * j) cj (bs.drop (12 + 4 * j)) 4 4 rfl (by rw [List.length_drop]; omega) hjc (by omega) (by omega)) ?_))
          rintro v L' ⟨p2, c2, rfl, hr2, hcc2, rfl⟩
          refine xo_rd (rd_move rfl) rfl ?_
          refine xo_rd (rd_extract rfl rfl) rfl ?_
          refine xo_rd (rd_extract rfl rfl) rfl ?_
          refine xo_rd (rd_extract rfl rfl) rfl ?_
          refine xo_rd (rd_assign rfl) rfl ?_
          refine xo_rd (rd_assign rfl) rfl ?_
          refine xo_rd (rd_assign rfl) rfl ?_
          refine xo_nil ?_
          refine xq_seq ?_
          refine xc_seq ?_
          refine xc_region ?_
          refine xo_rd (rd_move rfl) rfl ?_
          refine xo_rd (rd_not rfl) rfl ?_
          refine xo_nil ?_
          refine xq_seq ?_
          refine xc_condf rfl ?_
          refine xc_skip ?_
          refine xq_seq ?_
          refine xc_drawM [0, 1, 0, 4, 8, 26, 63, 127] [0, 1, 0, 4, 8, 26, 63, 127] [] (by kernel_rfl) (by kernel_rfl) (by kernel_rfl) ?_
          refine xm_take 0 (m' := 1) rfl (by kernel_rfl) (by first | exact Sb.refl | exact Sb.nil | (repeat (first | exact Sb.nil | exact Sb.refl | exact Sb.app0 | apply Sb.keep | apply Sb.keepApp | apply Sb.cons | apply Sb.app))) (rd_fieldAddr rfl) rfl (by kernel_rfl) ?_
          refine xm_take 2 (m' := 5) rfl (by kernel_rfl) (by first | exact Sb.refl | exact Sb.nil | (repeat (first | exact Sb.nil | exact Sb.refl | exact Sb.app0 | apply Sb.keep | apply Sb.keepApp | apply Sb.cons | apply Sb.app))) (rd_move rfl) rfl (by kernel_rfl) ?_
          refine xm_two 1 3 (mi := 7) (mk := 13) rfl rfl (by kernel_rfl) rfl rfl (by kernel_rfl) (by kernel_rfl) (ef_rd (rd_load1 rfl (Cl.o0 rfl)) ⟨(by first | exact Sb.refl | exact Sb.nil | (repeat (first | exact Sb.nil | exact Sb.refl | exact Sb.app0 | apply Sb.keep | apply Sb.keepApp | apply Sb.cons | apply Sb.app))), ?_⟩) (ef_call rfl (XF.mono (xf_number pj 4 cj ((bs.drop (12 + 4 * j)).take 4) (by rw [List.length_take, List.length_drop]; omega) ((hrj.ints_take 4).mono (by intro z hz; simp [hz])) (By.take (By.drop hb _) 4) (by omega)) ?_))
          rotate_left
          rintro v L' ⟨rfl, rfl⟩
          refine ⟨(by first | exact Sb.refl | exact Sb.nil | (repeat (first | exact Sb.nil | exact Sb.refl | exact Sb.app0 | apply Sb.keep | apply Sb.keepApp | apply Sb.cons | apply Sb.app))), ?_⟩
          rotate_right
          refine xm_one 3 (m' := 15) rfl (by kernel_rfl) rfl (by kernel_rfl) (ef_call rfl (XF.mono (xf_number pj 4 cj ((bs.drop (12 + 4 * j)).take 4) (by rw [List.length_take, List.length_drop]; omega) ((hrj.ints_take 4).mono (by intro z hz; simp [hz])) (By.take (By.drop hb _) 4) (by omega)) ?_))
          rintro v L' ⟨rfl, rfl⟩
          refine ⟨(by first | exact Sb.refl | exact Sb.nil | (repeat (first | exact Sb.nil | exact Sb.refl | exact Sb.app0 | apply Sb.keep | apply Sb.keepApp | apply Sb.cons | apply Sb.app))), ?_⟩
          refine xm_one 4 (m' := 31) rfl (by kernel_rfl) rfl (by kernel_rfl) (ef_slice1 rfl rfl rfl fun r66 => ?_)
          refine ⟨(by first | exact Sb.refl | exact Sb.nil | (repeat (first | exact Sb.nil | exact Sb.refl | exact Sb.app0 | apply Sb.keep | apply Sb.keepApp | apply Sb.cons | apply Sb.app))), ?_⟩
          refine xm_one 5 (m' := 63) rfl (by kernel_rfl) rfl (by kernel_rfl) (ef_appendS [_, _, _] L lj (news := [.int .u32 (vl ((bs.drop (12 + 4 * j)).take 4))]) rfl rfl hOj rfl (Rs.fresh (List.Mem.head _)) rfl rfl (by decide) (by omega) (by omega) fun q' k' l' hO' hck => ?_)
          refine ⟨(by first | exact Sb.refl | exact Sb.nil | (repeat (first | exact Sb.nil | exact Sb.refl | exact Sb.app0 | apply Sb.keep | apply Sb.keepApp | apply Sb.cons | apply Sb.app))), ?_⟩
          refine xm_take 6 (m' := 127) rfl (by kernel_rfl) (by first | exact Sb.refl | exact Sb.nil | (repeat (first | exact Sb.nil | exact Sb.refl | exact Sb.app0 | apply Sb.keep | apply Sb.keepApp | apply Sb.cons | apply Sb.app))) (rd_fieldAddr rfl) rfl (by kernel_rfl) ?_
          refine xm_one 7 (m' := 255) rfl (by kernel_rfl) rfl (by kernel_rfl) (ef_store1 [_] _ rfl rfl (by first | rfl | assumption) rfl rfl rfl ?_)
          refine ⟨(by first | exact Sb.refl | exact Sb.nil | (repeat (first | exact Sb.nil | exact Sb.refl | exact Sb.app0 | apply Sb.keep | apply Sb.keepApp | apply Sb.cons | apply Sb.app))), ?_⟩
          refine xm_done (by kernel_rfl) ?_
          refine xq_block ?_
          refine xq_seq ?_
          refine xc_region ?_
          refine xo_rd (rd_addn rfl rfl (by omega) (by omega)) rfl ?_
          refine xo_rd (rd_move rfl) rfl ?_
          refine xo_nil ?_
          rotate_left
          refine xm_two 1 4 (mi := 15) (mk := 29) rfl rfl (by kernel_rfl) rfl rfl (by kernel_rfl) (by kernel_rfl) (ef_rd (rd_load1 rfl (Cl.o0 rfl)) ⟨(by first | exact Sb.refl | exact Sb.nil | (repeat (first | exact Sb.nil | exact Sb.refl | exact Sb.app0 | apply Sb.keep | apply Sb.keepApp | apply Sb.cons | apply Sb.app))), ?_⟩) (ef_slice1 rfl rfl rfl fun r66 => ⟨(by first | exact Sb.refl | exact Sb.nil | (repeat (first | exact Sb.nil | exact Sb.refl | exact Sb.app0 | apply Sb.keep | apply Sb.keepApp | apply Sb.cons | apply Sb.app))), ?_⟩)
          refine xm_one 4 (m' := 31) rfl (by kernel_rfl) rfl (by kernel_rfl) (ef_slice1 rfl rfl rfl fun r66 => ?_)
          refine ⟨(by first | exact Sb.refl | exact Sb.nil | (repeat (first | exact Sb.nil | exact Sb.refl | exact Sb.app0 | apply Sb.keep | apply Sb.keepApp | apply Sb.cons | apply Sb.app))), ?_⟩
          refine xm_one 5 (m' := 63) rfl (by kernel_rfl) rfl (by kernel_rfl) (ef_appendS [_, _, _] L lj (news := [.int .u32 (vl ((bs.drop (12 + 4 * j)).take 4))]) rfl rfl hOj rfl (Rs.fresh (List.Mem.head _)) rfl rfl (by decide) (by omega) (by omega) fun q' k' l' hO' hck => ?_)
          refine ⟨(by first | exact Sb.refl | exact Sb.nil | (repeat (first | exact Sb.nil | exact Sb.refl | exact Sb.app0 | apply Sb.keep | apply Sb.keepApp | apply Sb.cons | apply Sb.app))), ?_⟩
          refine xm_take 6 (m' := 127) rfl (by kernel_rfl) (by first | exact Sb.refl | exact Sb.nil | (repeat (first | exact Sb.nil | exact Sb.refl | exact Sb.app0 | apply Sb.keep | apply Sb.keepApp | apply Sb.cons | apply Sb.app))) (rd_fieldAddr rfl) rfl (by kernel_rfl) ?_
          refine xm_one 7 (m' := 255) rfl (by kernel_rfl) rfl (by kernel_rfl) (ef_store1 [_] _ rfl rfl (by first | rfl | assumption) rfl rfl rfl ?_)
          refine ⟨(by first | exact Sb.refl | exact Sb.nil | (repeat (first | exact Sb.nil | exact Sb.refl | exact Sb.app0 | apply Sb.keep | apply Sb.keepApp | apply Sb.cons | apply Sb.app))), ?_⟩
          refine xm_done (by kernel_rfl) ?_
          refine xq_block ?_
          refine xq_seq ?_
          refine xc_region ?_
          refine xo_rd (rd_addn rfl rfl (by omega) (by omega)) rfl ?_
          refine xo_rd (rd_move rfl) rfl ?_
          refine xo_nil ?_
          rotate_left
          refine xm_one 1 (m' := 31) rfl (by kernel_rfl) rfl (by kernel_rfl) (ef_rd (rd_load1 rfl (Cl.o1 rfl)) ?_)
          refine ⟨(by first | exact Sb.refl | exact Sb.nil | (repeat (first | exact Sb.nil | exact Sb.refl | exact Sb.app0 | apply Sb.keep | apply Sb.keepApp | apply Sb.cons | apply Sb.app))), ?_⟩
          refine xm_one 5 (m' := 63) rfl (by kernel_rfl) rfl (by kernel_rfl) (ef_appendS [_, _, _] L lj (news := [.int .u32 (vl ((bs.drop (12 + 4 * j)).take 4))]) rfl rfl hOj rfl (Rs.fresh (List.Mem.head _)) rfl rfl (by decide) (by omega) (by omega) fun q' k' l' hO' hck => ?_)
          refine ⟨(by first | exact Sb.refl | exact Sb.nil | (repeat (first | exact Sb.nil | exact Sb.refl | exact Sb.app0 | apply Sb.keep | apply Sb.keepApp | apply Sb.cons | apply Sb.app))), ?_⟩
          refine xm_take 6 (m' := 127) rfl (by kernel_rfl) (by first | exact Sb.refl | exact Sb.nil | (repeat (first | exact Sb.nil | exact Sb.refl | exact Sb.app0 | apply Sb.keep | apply Sb.keepApp | apply Sb.cons | apply Sb.app))) (rd_fieldAddr rfl) rfl (by kernel_rfl) ?_
          refine xm_one 7 (m' := 255) rfl (by kernel_rfl) rfl (by kernel_rfl) (ef_store1 [_] _ rfl rfl (by first | rfl | assumption) rfl rfl rfl ?_)
          refine ⟨(by first | exact Sb.refl | exact Sb.nil | (repeat (first | exact Sb.nil | exact Sb.refl | exact Sb.app0 | apply Sb.keep | apply Sb.keepApp | apply Sb.cons | apply Sb.app))), ?_⟩
          refine xm_done (by kernel_rfl) ?_
          refine xq_block ?_
          refine xq_seq ?_
          refine xc_region ?_
          refine xo_rd (rd_addn rfl rfl (by omega) (by omega)) rfl ?_
          refine xo_rd (rd_move rfl) rfl ?_
          refine xo_nil ?_
          rotate_left
          refine xc_exit ?_
          refine xq_then_exit ?_
          refine xq_then_exit ?_
          refine xq_block_hit ?_
          rotate_left
        iterate 3
          · refine xq_tail (xq_roundI (⟨j + 1, p2, c2, .slice q' (j + 1) k', l'⟩ : PsS) ⟨by dsimp only; omega, by dsimp only; omega, by dsimp only; omega, by dsimp only; have := hr2 _ hrj; rwa [List.drop_drop, show 12 + 4 * j + 4 = 12 + 4 * (j + 1) from by omega] at this, ?_⟩ (by dsimp only; omega) rfl (by repeat (first | exact keep_nil | refine keep_cons rfl ?_)))
            dsimp only
            rw [chunks_snoc, List.drop_drop, ints_snoc]
            exact hO'
        exact xq_joined (⟨j, pj, cj, vj, lj⟩ : PsS) ⟨by dsimp only; omega, hjm, hjc, hrj, hOj⟩ rfl (by repeat (first | exact keep_nil | refine keep_cons rfl ?_))
    · rintro ⟨j, pj, cj, vj, lj⟩ ⟨hj, hjm, hjc, hrj, hOj⟩
      dsimp only at hj hjm hjc hrj hOj ⊢
      have hrl : (bs.drop (12 + 4 * j)).length = m - 12 - 4 * j := by rw [List.length_drop]; omega
      have hpe : ¬ (bs.drop 12).length < 4 * mn := by rw [List.length_drop]; omega
      have hdd : (bs.drop 12).drop (4 * mn) = bs.drop (12 + 4 * j) := by rw [← hj]; exact List.drop_drop ..
      refine xc_join (ι := ExS) (fun s => parseE f0 (bs.drop (12 + 4 * j)) = some (s.hx, s.pf, s.ex, s.r) ∧ Rs W L s.p (ints .u8 s.r) ∧ s.r.length ≤ s.c ∧ SlO 1 5 s.v s.ex.length (ints .u8 s.ex) s.l ∧ (∀ x, x ∈ s.r → By x) ∧ s.r.length ≤ m) (fun s => (r7, .cells #[.bool (decide (128 ≤ f1)), .int .u8 (f1 % 128), .int .u16 (vl ((bs.drop 2).take 2)), .int .u32 (vl ((bs.drop 4).take 4)), .int .u32 (vl ((bs.drop 8).take 4)), vj, .bool s.hx, .int .u16 s.pf, s.v, .slice none 0 0, .int .u8 0] 33 (0, 0)) :: (r2, .cells #[.bool false, .int .u8 0, .int .u16 0, .int .u32 0, .int .u32 0, .slice none 0 0, .bool false, .int .u16 0, .slice none 0 0, .slice none 0 0, .int .u8 0] 33 (0, 0)) :: (lj ++ (s.l ++ L))) (fun s => [(2, .pointer (some ⟨r2, 0, none⟩)), (4, .slice (some ⟨b, o, none⟩) 12 c), (5, .slice s.p s.r.length s.c), (7, .pointer (some ⟨r7, 0, none⟩))]) ?_ ?_
      · skip
        by_cases hf : f0 / 16 % 2 = 1
        · have hpp : parseE f0 (bs.drop (12 + 4 * j)) = parseE 16 (bs.drop (12 + 4 * j)) := by unfold parseE; rw [if_pos hf, if_pos (show (16 : Int) / 16 % 2 = 1 by decide)]
          have hx30 := xf_ext (W := W) (L := (r2, .cells #[.bool false, .int .u8 0, .int .u16 0, .int .u32 0, .int .u32 0, .slice none 0 0, .bool false, .int .u16 0, .slice none 0 0, .slice none 0 0, .int .u8 0] 33 (0, 0)) :: (lj ++ L)) r7 (.bool (decide (128 ≤ f1))) (.int .u8 (f1 % 128)) (.int .u16 (vl ((bs.drop 2).take 2))) (.int .u32 (vl ((bs.drop 4).take 4))) (.int .u32 (vl ((bs.drop 8).take 4))) vj (.bool false) (.int .u16 0) (.slice none 0 0) (.slice none 0 0) (.int .u8 0) pj (m - 12 - 4 * j) cj (bs.drop (12 + 4 * j)) hrl (hrj.mono (by intro z hz; simp [hz])) (By.drop hb _) hjc (by omega)
          cases hE : parseE 16 (bs.drop (12 + 4 * j)) with
          | none =>
            rw [hE] at hx30 hpp
            dsimp only at hx30
            focus
              refine xc_seq ?_
              refine xc_region ?_
              refine xo_rd (rd_move rfl) rfl ?_
              refine xo_rd (rd_indexAddr rfl rfl (by omega) (by omega)) rfl ?_
              refine xo_rd (rd_load1 rfl (hc0 _ (by intro z hz; simp [hz]))) rfl ?_
              refine xo_rd (rd_cast (v' := .int .u8 (f0 / 16 % 2 * 16)) (rd_and rfl rfl) (by rw [and8_16 f0 hb0.1 hb0.2])) rfl ?_
              refine xo_rd (rd_neq rfl rfl) rfl ?_
              refine xo_nil ?_
              refine xq_seq ?_
              refine xc_ndec rfl (fun h1 => ?_) (fun h1 => (by exfalso; omega))
              refine xc_seq ?_
              refine xc_region ?_
              refine xo_rd (rd_move rfl) rfl ?_
              refine xo_ef rfl (ef_call rfl (XF.mono (hx30) ?_))
              rintro v L' ⟨rfl, vs, rfl⟩
              refine xo_rd (rd_move rfl) rfl ?_
              refine xo_rd (rd_extract rfl rfl) rfl ?_
              refine xo_rd (rd_extract rfl rfl) rfl ?_
              refine xo_rd (rd_assign rfl) rfl ?_
              refine xo_rd (rd_assign rfl) rfl ?_
              refine xo_nil ?_
              refine xq_seq ?_
              refine xc_seq ?_
              refine xc_region ?_
              refine xo_rd (rd_move rfl) rfl ?_
              refine xo_rd (rd_not rfl) rfl ?_
              refine xo_nil ?_
              refine xq_seq ?_
              refine xc_condt rfl ?_
              refine xc_seq ?_
              refine xc_region ?_
              refine xo_rd (rd_build rfl rfl rfl) rfl ?_
              refine xo_ef rfl (ef_storeB [_] _ rfl rfl (by first | rfl | assumption) rfl rfl rfl ?_)
              refine xo_rd (rd_assign rfl) rfl ?_
              refine xo_nil ?_
              refine xq_seq ?_
              refine xc_ret ?_
              refine xq_then_ret ?_
            rw [show parseL bs = (10, .zero) from by unfold parseL; rw [if_neg (by omega), hg0, if_neg (by omega), hmn2, if_neg hpe, hdd, hpp]]
            exact xq_retB2 (L' := L) (.inl rfl) Try.results10 rfl rfl Kn.o1 rfl ((List.sublist_append_right lj L).trans ((List.sublist_cons_self _ _).trans (List.sublist_cons_self _ _))) ⟨_, _, _, [], [], [], rfl, PkM.zero, rfl⟩
          | some z =>
            obtain ⟨hx, pf, ex, r⟩ := z
            rw [hE] at hx30 hpp
            dsimp only at hx30
            focus
              refine xc_seq ?_
              refine xc_region ?_
              refine xo_rd (rd_move rfl) rfl ?_
              refine xo_rd (rd_indexAddr rfl rfl (by omega) (by omega)) rfl ?_
              refine xo_rd (rd_load1 rfl (hc0 _ (by intro z hz; simp [hz]))) rfl ?_
              refine xo_rd (rd_cast (v' := .int .u8 (f0 / 16 % 2 * 16)) (rd_and rfl rfl) (by rw [and8_16 f0 hb0.1 hb0.2])) rfl ?_
              refine xo_rd (rd_neq rfl rfl) rfl ?_
              refine xo_nil ?_
              refine xq_seq ?_
              refine xc_ndec rfl (fun h1 => ?_) (fun h1 => (by exfalso; omega))
              refine xc_seq ?_
              refine xc_region ?_
              refine xo_rd (rd_move rfl) rfl ?_
              refine xo_ef rfl (ef_call rfl (XF.mono (hx30) ?_))
              rintro v L' ⟨pe, ce, qe, ke, le, rfl, hre, hce, hOe, rfl⟩
              refine xo_rd (rd_move rfl) rfl ?_
              refine xo_rd (rd_extract rfl rfl) rfl ?_
              refine xo_rd (rd_extract rfl rfl) rfl ?_
              refine xo_rd (rd_assign rfl) rfl ?_
              refine xo_rd (rd_assign rfl) rfl ?_
              refine xo_nil ?_
              refine xq_seq ?_
              refine xc_seq ?_
              refine xc_region ?_
              refine xo_rd (rd_move rfl) rfl ?_
              refine xo_rd (rd_not rfl) rfl ?_
              refine xo_nil ?_
              refine xq_seq ?_
              refine xc_condf rfl ?_
              refine xc_skip ?_
            have hrb : ∀ x, x ∈ r → By x := fun x hx => parseE_mem hpp (By.drop hb _) x hx
            have hrm : r.length ≤ m := by have := parseE_len hpp; omega
            refine xq_perm (L' := (r7, .cells #[.bool (decide (128 ≤ f1)), .int .u8 (f1 % 128), .int .u16 (vl ((bs.drop 2).take 2)), .int .u32 (vl ((bs.drop 4).take 4)), .int .u32 (vl ((bs.drop 8).take 4)), vj, .bool hx, .int .u16 pf, .slice qe ex.length ke, .slice none 0 0, .int .u8 0] 33 (0, 0)) :: (r2, .cells #[.bool false, .int .u8 0, .int .u16 0, .int .u32 0, .int .u32 0, .slice none 0 0, .bool false, .int .u16 0, .slice none 0 0, .slice none 0 0, .int .u8 0] 33 (0, 0)) :: (lj ++ (le ++ L))) (by classical exact List.perm_iff_count.2 fun a => by simp only [List.append_eq, List.count_append, List.count_cons, List.count_nil, List.cons_append, List.nil_append, List.flatMap_append, List.flatMap_cons, List.flatMap_nil, List.append_nil]; omega) ?_
            exact xq_joined (⟨hx, pf, ex, r, pe, ce, .slice qe ex.length ke, le⟩ : ExS) ⟨hpp, hre _ hrj, hce, hOe, hrb, hrm⟩ rfl (by repeat (first | exact keep_nil | refine keep_cons rfl ?_))
        · focus
            refine xc_seq ?_
            refine xc_region ?_
            refine xo_rd (rd_move rfl) rfl ?_
            refine xo_rd (rd_indexAddr rfl rfl (by omega) (by omega)) rfl ?_
            refine xo_rd (rd_load1 rfl (hc0 _ (by intro z hz; simp [hz]))) rfl ?_
            refine xo_rd (rd_cast (v' := .int .u8 (f0 / 16 % 2 * 16)) (rd_and rfl rfl) (by rw [and8_16 f0 hb0.1 hb0.2])) rfl ?_
            refine xo_rd (rd_neq rfl rfl) rfl ?_
            refine xo_nil ?_
            refine xq_seq ?_
            refine xc_ndec rfl (fun h1 => (by exfalso; omega)) (fun h1 => ?_)
            refine xc_skip ?_
          rw [← hrl]
          exact xq_joined (⟨false, 0, [], bs.drop (12 + 4 * j), pj, cj, .slice none 0 0, []⟩ : ExS) ⟨by unfold parseE; rw [if_neg hf], hrj, by dsimp only; omega, SlO.nil, By.drop hb _, by dsimp only; omega⟩ rfl (by repeat (first | exact keep_nil | refine keep_cons rfl ?_))
      · rintro ⟨hx, pf, ex, r, pe, ce, ve, le⟩ ⟨hE, hre, hce, hOe, hrb, hrm⟩
        dsimp only at hE hre hce hOe hrb hrm ⊢
        refine xc_join (ι := PdS) (fun s => parseP f0 r = some (s.pl, s.pd) ∧ Rs W L s.p (ints .u8 s.pl) ∧ s.pl.length ≤ s.c ∧ s.pl.length ≤ m) (fun s => (r7, .cells #[.bool (decide (128 ≤ f1)), .int .u8 (f1 % 128), .int .u16 (vl ((bs.drop 2).take 2)), .int .u32 (vl ((bs.drop 4).take 4)), .int .u32 (vl ((bs.drop 8).take 4)), vj, .bool hx, .int .u16 pf, ve, .slice none 0 0, .int .u8 s.pd] 33 (0, 0)) :: (r2, .cells #[.bool false, .int .u8 0, .int .u16 0, .int .u32 0, .int .u32 0, .slice none 0 0, .bool false, .int .u16 0, .slice none 0 0, .slice none 0 0, .int .u8 0] 33 (0, 0)) :: (lj ++ (le ++ L))) (fun s => [(2, .pointer (some ⟨r2, 0, none⟩)), (5, .slice s.p s.pl.length s.c), (7, .pointer (some ⟨r7, 0, none⟩))]) ?_ ?_
        · skip
          have hbad : parseP f0 r = none → parseL bs = (21, .zero) := fun h => by
            unfold parseL; rw [if_neg (by omega), hg0, if_neg (by omega), hmn2, if_neg hpe, hdd, hE]; dsimp only; rw [h]
          by_cases hf : f0 / 32 % 2 = 1
          · by_cases hr0 : r.length = 0
            · focus
                refine xc_seq ?_
                refine xc_region ?_
                refine xo_rd (rd_move rfl) rfl ?_
                refine xo_rd (rd_indexAddr rfl rfl (by omega) (by omega)) rfl ?_
                refine xo_rd (rd_load1 rfl (hc0 _ (by intro z hz; simp [hz]))) rfl ?_
                refine xo_rd (rd_cast (v' := .int .u8 (f0 / 32 % 2 * 32)) (rd_and rfl rfl) (by rw [and8_32 f0 hb0.1 hb0.2])) rfl ?_
                refine xo_rd (rd_neq rfl rfl) rfl ?_
                refine xo_nil ?_
                refine xq_seq ?_
                refine xc_ndec rfl (fun h1 => ?_) (fun h1 => (by exfalso; omega))
                refine xc_seq ?_
                refine xc_region ?_
                refine xo_rd (rd_move rfl) rfl ?_
                refine xo_rd (rd_len rfl) rfl ?_
                refine xo_rd (rd_assign rfl) rfl ?_
                refine xo_nil ?_
                refine xq_seq ?_
                refine xc_seq ?_
                refine xc_seq ?_
                refine xc_region ?_
                refine xo_rd (rd_move rfl) rfl ?_
                refine xo_rd (rd_eql rfl rfl) rfl ?_
                refine xo_rd (rd_move rfl) rfl ?_
                refine xo_dec 92 rfl (fun h2 => ?_) (fun h2 => (by exfalso; omega))
                refine xo_gskip rfl rfl rfl rfl ?_
                refine xo_gskip rfl rfl rfl rfl ?_
                refine xo_gskip rfl rfl rfl rfl ?_
                refine xo_gskip rfl rfl rfl rfl ?_
                refine xo_gskip rfl rfl rfl rfl ?_
                refine xo_gskip rfl rfl rfl rfl ?_
                refine xo_rd (rd_pickt rfl rfl) rfl ?_
                refine xo_rd (rd_move rfl) rfl ?_
                refine xo_gskip rfl rfl rfl rfl ?_
                refine xo_gskip rfl rfl rfl rfl ?_
                refine xo_gskip rfl rfl rfl rfl ?_
                refine xo_gskip rfl rfl rfl rfl ?_
                refine xo_gskip rfl rfl rfl rfl ?_
                refine xo_gskip rfl rfl rfl rfl ?_
                refine xo_gskip rfl rfl rfl rfl ?_
                refine xo_gskip rfl rfl rfl rfl ?_
                refine xo_rd (rd_pickt rfl rfl) rfl ?_
                refine xo_nil ?_
                refine xq_seq ?_
                refine xc_condt rfl ?_
                refine xc_seq ?_
                refine xc_region ?_
                refine xo_rd (rd_build rfl rfl rfl) rfl ?_
                refine xo_ef rfl (ef_storeB [_] _ rfl rfl (by first | rfl | assumption) rfl rfl rfl ?_)
                refine xo_rd (rd_assign rfl) rfl ?_
                refine xo_nil ?_
                refine xq_seq ?_
                refine xc_ret ?_
                refine xq_then_ret ?_
                refine xq_then_ret ?_
              rw [hbad (by unfold parseP; rw [if_pos hf, if_pos (.inl hr0)])]
              exact xq_retB2 (L' := L) (.inl rfl) Try.results10 rfl rfl Kn.o1 rfl ((List.sublist_append_right le L).trans ((List.sublist_append_right lj _).trans ((List.sublist_cons_self _ _).trans (List.sublist_cons_self _ _)))) ⟨_, _, _, [], [], [], rfl, PkM.zero, rfl⟩
            · obtain ⟨b3, o3, rfl, hc3⟩ := hre.int (i := r.length - 1) (by omega)
              have hzg : r.getD (r.length - 1) 0 = r[r.length - 1]'(by omega) := getD_get (by omega)
              have hzb := hrb (r[r.length - 1]'(by omega)) (List.getElem_mem _)
              unfold By at hzb
              generalize r[r.length - 1]'(by omega) = z at hzg hzb hc3
              have hc3' : ∀ L', (∀ y, y ∈ L → y ∈ L') → Cl W L' b3 (o3 + ((r.length : Int) - 1).toNat * 1) (.int .u8 z) := fun L' hL' => by
                rw [show ((r.length : Int) - 1).toNat = r.length - 1 from by omega]
                obtain ⟨vs, T, fr, h1, h2⟩ := hc3
                exact ⟨vs, T, fr, h1.imp id (hL' _), h2⟩
              focus
                refine xc_seq ?_
                refine xc_region ?_
                refine xo_rd (rd_move rfl) rfl ?_
                refine xo_rd (rd_indexAddr rfl rfl (by omega) (by omega)) rfl ?_
                refine xo_rd (rd_load1 rfl (hc0 _ (by intro z hz; simp [hz]))) rfl ?_
                refine xo_rd (rd_cast (v' := .int .u8 (f0 / 32 % 2 * 32)) (rd_and rfl rfl) (by rw [and8_32 f0 hb0.1 hb0.2])) rfl ?_
                refine xo_rd (rd_neq rfl rfl) rfl ?_
                refine xo_nil ?_
                refine xq_seq ?_
                refine xc_ndec rfl (fun hz1 => ?_) (fun hz1 => (by exfalso; omega))
                refine xc_seq ?_
                refine xc_region ?_
                refine xo_rd (rd_move rfl) rfl ?_
                refine xo_rd (rd_len rfl) rfl ?_
                refine xo_rd (rd_assign rfl) rfl ?_
                refine xo_nil ?_
                refine xq_seq ?_
                refine xc_seq ?_
                refine xc_seq ?_
                refine xc_region ?_
                refine xo_rd (rd_move rfl) rfl ?_
                refine xo_rd (rd_eql rfl rfl) rfl ?_
                refine xo_rd (rd_move rfl) rfl ?_
                refine xo_dec 92 rfl (fun hz2 => (by exfalso; omega)) (fun hz2 => ?_)
                refine xo_grd rfl rfl (rd_move rfl) rfl ?_
                refine xo_grd rfl rfl (rd_move rfl) rfl ?_
                refine xo_grd rfl rfl (rd_subn rfl rfl (by omega) (by omega)) rfl ?_
                refine xo_grd rfl rfl (rd_indexAddr rfl rfl (by omega) (by omega)) rfl ?_
                refine xo_grd rfl rfl (rd_load1 rfl (hc3' _ (by intro z hz; simp [hz]))) rfl ?_
                refine xo_grd rfl rfl (rd_eql rfl rfl) rfl ?_
                refine xo_rd (rd_pickf rfl rfl) rfl ?_
                refine xo_rd (rd_move rfl) rfl ?_
                refine xo_dec 100 rfl (fun hz3 => ?_) (fun hz3 => ?_)
                refine xo_gskip rfl rfl rfl rfl ?_
                refine xo_gskip rfl rfl rfl rfl ?_
                refine xo_gskip rfl rfl rfl rfl ?_
                refine xo_gskip rfl rfl rfl rfl ?_
                refine xo_gskip rfl rfl rfl rfl ?_
                refine xo_gskip rfl rfl rfl rfl ?_
                refine xo_gskip rfl rfl rfl rfl ?_
                refine xo_gskip rfl rfl rfl rfl ?_
                refine xo_rd (rd_pickt rfl rfl) rfl ?_
                refine xo_nil ?_
                refine xq_seq ?_
                refine xc_condt rfl ?_
                refine xc_seq ?_
                refine xc_region ?_
                refine xo_rd (rd_build rfl rfl rfl) rfl ?_
                refine xo_ef rfl (ef_storeB [_] _ rfl rfl (by first | rfl | assumption) rfl rfl rfl ?_)
                refine xo_rd (rd_assign rfl) rfl ?_
                refine xo_nil ?_
                refine xq_seq ?_
                refine xc_ret ?_
                refine xq_then_ret ?_
                refine xq_then_ret ?_
                rotate_left
                refine xo_grd rfl rfl (rd_move rfl) rfl ?_
                refine xo_grd rfl rfl (rd_move rfl) rfl ?_
                refine xo_grd rfl rfl (rd_subn rfl rfl (by omega) (by omega)) rfl ?_
                refine xo_grd rfl rfl (rd_indexAddr rfl rfl (by omega) (by omega)) rfl ?_
                refine xo_grd rfl rfl (rd_load1 rfl (hc3' _ (by intro z hz; simp [hz]))) rfl ?_
                refine xo_grd rfl rfl (rd_convn rfl (by omega) (by omega)) rfl ?_
                refine xo_grd rfl rfl (rd_move rfl) rfl ?_
                refine xo_grd rfl rfl (rd_gtr rfl rfl) rfl ?_
                refine xo_rd (rd_pickf rfl rfl) rfl ?_
                refine xo_nil ?_
                refine xq_seq ?_
                refine xc_dec rfl (fun hz4 => ?_) (fun hz4 => ?_)
                refine xc_seq ?_
                refine xc_region ?_
                refine xo_rd (rd_build rfl rfl rfl) rfl ?_
                refine xo_ef rfl (ef_storeB [_] _ rfl rfl (by first | rfl | assumption) rfl rfl rfl ?_)
                refine xo_rd (rd_assign rfl) rfl ?_
                refine xo_nil ?_
                refine xq_seq ?_
                refine xc_ret ?_
                refine xq_then_ret ?_
                refine xq_then_ret ?_
                rotate_left
                refine xc_skip ?_
                refine xq_seq ?_
                refine xc_seq ?_
                refine xc_region ?_
                refine xo_rd (rd_move rfl) rfl ?_
                refine xo_rd (rd_move rfl) rfl ?_
                refine xo_rd (rd_subn rfl rfl (by omega) (by omega)) rfl ?_
                refine xo_rd (rd_indexAddr rfl rfl (by omega) (by omega)) rfl ?_
                refine xo_rd (rd_load1 rfl (hc3' _ (by intro z hz; simp [hz]))) rfl ?_
                refine xo_rd (rd_fieldAddr rfl) rfl ?_
                refine xo_ef rfl (ef_store1 [] _ rfl rfl (by first | rfl | assumption) rfl rfl rfl ?_)
                refine xo_nil ?_
                refine xq_seq ?_
                refine xc_region ?_
                refine xo_rd (rd_move rfl) rfl ?_
                refine xo_rd (rd_move rfl) rfl ?_
                refine xo_rd (rd_fieldAddr rfl) rfl ?_
                refine xo_rd (rd_load1 rfl (Cl.o0 rfl)) rfl ?_
                refine xo_rd (rd_convn rfl (by omega) (by omega)) rfl ?_
                refine xo_rd (rd_subn rfl rfl (by omega) (by omega)) rfl ?_
                refine xo_rd (rd_sliceHi rfl rfl (by omega) (by omega)) rfl ?_
                refine xo_rd (rd_assign rfl) rfl ?_
                refine xo_nil ?_
                rotate_left
              · rw [hbad (by unfold parseP; rw [if_pos hf, if_pos (.inr (.inl (by rw [hzg]; assumption)))])]
                exact xq_retB2 (L' := L) (.inl rfl) Try.results10 rfl rfl Kn.o1 rfl ((List.sublist_append_right le L).trans ((List.sublist_append_right lj _).trans ((List.sublist_cons_self _ _).trans (List.sublist_cons_self _ _)))) ⟨_, _, _, [], [], [], rfl, PkM.zero, rfl⟩
              · rw [hbad (by unfold parseP; rw [if_pos hf, if_pos (.inr (.inr (by rw [hzg]; assumption)))])]
                exact xq_retB2 (L' := L) (.inl rfl) Try.results10 rfl rfl Kn.o1 rfl ((List.sublist_append_right le L).trans ((List.sublist_append_right lj _).trans ((List.sublist_cons_self _ _).trans (List.sublist_cons_self _ _)))) ⟨_, _, _, [], [], [], rfl, PkM.zero, rfl⟩
              · obtain ⟨k, hk⟩ : ∃ k : Nat, k = ((r.length : Int) - z).toNat := ⟨_, rfl⟩
                have hlk : (r.take k).length = k := by rw [List.length_take]; omega
                rw [← hk, ← hlk]
                exact xq_joined (⟨r.take k, z, _, ce⟩ : PdS) ⟨by unfold parseP; rw [if_pos hf, if_neg (by rw [hzg]; omega), hzg, ← hk], hre.ints_take k, by dsimp only; omega, by dsimp only; omega⟩ rfl (by repeat (first | exact keep_nil | refine keep_cons rfl ?_))
          · focus
              refine xc_seq ?_
              refine xc_region ?_
              refine xo_rd (rd_move rfl) rfl ?_
              refine xo_rd (rd_indexAddr rfl rfl (by omega) (by omega)) rfl ?_
              refine xo_rd (rd_load1 rfl (hc0 _ (by intro z hz; simp [hz]))) rfl ?_
              refine xo_rd (rd_cast (v' := .int .u8 (f0 / 32 % 2 * 32)) (rd_and rfl rfl) (by rw [and8_32 f0 hb0.1 hb0.2])) rfl ?_
              refine xo_rd (rd_neq rfl rfl) rfl ?_
              refine xo_nil ?_
              refine xq_seq ?_
              refine xc_ndec rfl (fun h1 => (by exfalso; omega)) (fun h1 => ?_)
              refine xc_skip ?_
            exact xq_joined (⟨r, 0, pe, ce⟩ : PdS) ⟨by unfold parseP; rw [if_neg hf], hre, hce, hrm⟩ rfl (by repeat (first | exact keep_nil | refine keep_cons rfl ?_))
        · rintro ⟨pl, pd, pp, cp⟩ ⟨hP, hrp, hcp, hpm⟩
          dsimp only at hP hrp hcp hpm ⊢
          obtain ⟨qj, kj, rfl, hOj, _⟩ := hOj.opn
          obtain ⟨qe, ke, rfl, hOe, _⟩ := hOe.opn
          focus
            refine xc_seq ?_
            refine xc_region ?_
            refine xo_rd (rd_move rfl) rfl ?_
            refine xo_ef rfl (ef_call rfl (XF.mono (xf_clone pp pl.length cp (ints .u8 pl) (by rw [ints_len, Nat.mul_one]) (hrp.mono (by intro z hz; simp [hz])) (ints_one _ _) (by omega)) ?_))
            rintro v L' ⟨q3, k3, l3, rfl, hO3, _, rfl⟩
            refine xo_seg [_, _] l3 (lj ++ (le ++ L)) ?_
            refine xo_rd (rd_fieldAddr rfl) rfl ?_
            refine xo_ef rfl (ef_store1 [] _ rfl rfl (by first | rfl | assumption) rfl rfl rfl ?_)
            refine xo_nil ?_
            refine xq_seq ?_
            refine xc_seq ?_
            refine xc_region ?_
            refine xo_rd (rd_loadB (vs := [.bool (decide (128 ≤ f1)), .int .u8 (f1 % 128), .int .u16 (vl ((bs.drop 2).take 2)), .int .u32 (vl ((bs.drop 4).take 4)), .int .u32 (vl ((bs.drop 8).take 4)), .slice qj j kj, .bool hx, .int .u16 pf, .slice qe ex.length ke, .slice q3 pl.length k3, .int .u8 pd]) rfl Kn.o0 rfl) rfl ?_
            refine xo_ef rfl (ef_storeB [_] _ (vs := [.bool (decide (128 ≤ f1)), .int .u8 (f1 % 128), .int .u16 (vl ((bs.drop 2).take 2)), .int .u32 (vl ((bs.drop 4).take 4)), .int .u32 (vl ((bs.drop 8).take 4)), .slice qj j kj, .bool hx, .int .u16 pf, .slice qe ex.length ke, .slice q3 pl.length k3, .int .u8 pd]) rfl rfl rfl rfl rfl rfl ?_)
            refine xo_rd (rd_assign rfl) rfl ?_
            refine xo_nil ?_
            refine xq_seq ?_
            refine xc_ret ?_
          have hres : parseL bs = (0, ⟨decide (128 ≤ f1), f1 % 128, vl ((bs.drop 2).take 2), vl ((bs.drop 4).take 4), vl ((bs.drop 8).take 4), chunks j (bs.drop 12), hx, pf, ex, pl, pd⟩) := by
            unfold parseL; rw [if_neg (by omega), hg0, hg1, if_neg (by omega), hmn2, if_neg hpe, hdd, hE]; dsimp only; rw [hP, hj]
          rw [hres]
          refine xq_perm (L' := (r7, .cells ([.bool (decide (128 ≤ f1)), .int .u8 (f1 % 128), .int .u16 (vl ((bs.drop 2).take 2)), .int .u32 (vl ((bs.drop 4).take 4)), .int .u32 (vl ((bs.drop 8).take 4)), .slice qj j kj, .bool hx, .int .u16 pf, .slice qe ex.length ke, .slice q3 pl.length k3, .int .u8 pd] : List Value).toArray 33 (0, 0)) :: (r2, .cells ([.bool (decide (128 ≤ f1)), .int .u8 (f1 % 128), .int .u16 (vl ((bs.drop 2).take 2)), .int .u32 (vl ((bs.drop 4).take 4)), .int .u32 (vl ((bs.drop 8).take 4)), .slice qj j kj, .bool hx, .int .u16 pf, .slice qe ex.length ke, .slice q3 pl.length k3, .int .u8 pd] : List Value).toArray 33 (0, 0)) :: (lj ++ (le ++ (l3 ++ L)))) ?_ ?_
          · refine .cons _ (.cons _ ?_)
            exact (by classical exact List.perm_iff_count.2 fun a => by simp only [List.append_eq, List.count_append, List.count_cons, List.count_nil, List.cons_append, List.nil_append, List.flatMap_append, List.flatMap_cons, List.flatMap_nil, List.append_nil]; omega)
          · exact xq_retB2 (.inl rfl) Try.results10 rfl rfl Kn.o1 rfl ((List.sublist_cons_self _ _).trans (List.sublist_cons_self _ _)) ⟨_, _, _, lj, le, l3, rfl, ⟨by dsimp only; rw [chunks_len]; exact hOj, hOe, hO3⟩, rfl⟩
end Go.Proofs.Ytpcmnbagalhjiaa.X
