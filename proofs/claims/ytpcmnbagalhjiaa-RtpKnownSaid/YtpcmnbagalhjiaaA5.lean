/-
  The reference reads a packet: a walk of my own.
-/
import Derived.Test.YtpcmnbagalhjiaaA4
namespace Go.Proofs.Ytpcmnbagalhjiaa.X
open Go Go.RowKit
set_option linter.unusedVariables false
set_option linter.unusedSimpArgs false
theorem Rs.subI {W : World} {L L' : List Blk} {b o : Nat} {xs : List Int} (h : Rs W L (some ⟨b, o, none⟩) (ints .u8 xs)) (i : Int) (k n : Nat) (hi : i = k) (hs : ∀ z, z ∈ L → z ∈ L') : Rs W L' (some ⟨b, o + i.toNat * 1, none⟩) (ints .u8 ((xs.drop k).take n)) := by
  subst hi
  exact h.sub2 k n hs
theorem Rs.slpI {W : World} {L L' : List Blk} {p : Option Addr} {xs : List Int} (h : Rs W L p (ints .u8 xs)) (cap : Nat) (i : Int) (k n : Nat) (hi : i = k) (hc : xs.length ≤ cap) (hs : ∀ z, z ∈ L → z ∈ L') : Rs W L' (X.slp p cap i.toNat 1) (ints .u8 ((xs.drop k).take n)) := by
  subst hi
  refine Rs.ints_take ?_ n
  rw [ints_drop]
  exact (h.mono hs).slp cap k (by rw [ints_len]; exact hc)
theorem parseE_at {f : Int} {bs : List Int} {a nn : Nat} (hf : f / 16 % 2 = 1) (h : a + 4 + 4 * nn ≤ bs.length) (hv : vl ((bs.drop (a + 2)).take 2) = nn) : parseE f (bs.drop a) = some (true, vl ((bs.drop a).take 2), (bs.drop (a + 4)).take (4 * nn), bs.drop (a + 4 + 4 * nn)) := by
  unfold parseE
  rw [if_pos hf, if_neg (by rw [List.length_drop]; omega), List.drop_drop, List.drop_drop, hv, if_neg (by rw [List.length_drop]; omega), List.drop_drop, show (4 * (nn : Int)).toNat = 4 * nn from by omega]
theorem parseE_no1 {f : Int} {bs : List Int} {a : Nat} (hf : f / 16 % 2 = 1) (h : bs.length < a + 4) : parseE f (bs.drop a) = none := by
  unfold parseE
  rw [if_pos hf]
  split
  · rfl
  · rename_i hn
    rw [List.length_drop] at hn
    by_cases h0 : a ≤ bs.length
    · omega
    · omega
theorem parseE_no2 {f : Int} {bs : List Int} {a nn : Nat} (hf : f / 16 % 2 = 1) (h : bs.length < a + 4 + 4 * nn) (hv : vl ((bs.drop (a + 2)).take 2) = nn) : parseE f (bs.drop a) = none := by
  unfold parseE
  rw [if_pos hf]
  split
  · rfl
  · rename_i hn
    rw [List.length_drop] at hn
    rw [List.drop_drop, List.drop_drop, hv, if_pos (by rw [List.length_drop]; omega)]
theorem xf_value2 {W : World} {L : List Blk} (p : Option Addr) (m c : Nat) (xs : List Int) {nn : Int} (hn : vl xs = nn) (hx : xs.length = m) (hr : Rs W L p (ints .u8 xs)) (hb : ∀ x, x ∈ xs → By x) (hm : m ≤ 4) : XF Try.prog W 27 #[.slice p m c] L (fun v L' => v = .int .u64 nn ∧ L' = L) := by
  subst hn; exact xf_value p m c xs hx hr hb hm
structure PrS where
  j : Nat
  v : Value
  l : List Blk
structure ErS where
  hx : Bool
  pf : Int
  ex : List Int
  t : Nat
  v : Value
  l : List Blk
set_option maxHeartbeats 4000000 in
theorem xf_rparse {W : World} {L : List Blk} (p : Option Addr) (m c : Nat) (bs : List Int) (hx : bs.length = m) (hr : Rs W L p (ints .u8 bs)) (hb : ∀ x, x ∈ bs → By x) (hc : m ≤ c) (hm : m ≤ 1000000000) :
    XF Try.prog W 9 #[.slice p m c] L (fun v L' => ∃ v1 v2 v3 l1 l2 l3, v = .tuple #[.agg ((parseL bs).2.enc v1 v2 v3).toArray, .int .i64 (parseL bs).1] ∧ PkM (parseL bs).2 v1 v2 v3 l1 l2 l3 ∧ L' = l1 ++ (l2 ++ (l3 ++ L))) := by
  refine xf_enter (args := [_]) Try.func9 rfl Try.ntmps9 rfl ?_
  by_cases h12 : m < 12
  · rw [show parseL bs = (10, .zero) from by unfold parseL; rw [if_pos (by omega)]]
    focus
      refine xc_seq ?_
      refine xc_region ?_
      refine xo_ef rfl (ef_alloc fun r2 => ?_)
      refine xo_rd (rd_assign rfl) rfl ?_
      refine xo_nil ?_
      refine xq_seq ?_
      refine xc_seq ?_
      refine xc_seq ?_
      refine xc_region ?_
      refine xo_rd (rd_move rfl) rfl ?_
      refine xo_rd (rd_len rfl) rfl ?_
      refine xo_rd (rd_lss rfl rfl) rfl ?_
      refine xo_nil ?_
      refine xq_seq ?_
      refine xc_dec rfl (fun h1 => ?_) (fun h1 => (by exfalso; omega))
      refine xc_seq ?_
      refine xc_region ?_
      refine xo_rd (rd_build rfl rfl rfl) rfl ?_
      refine xo_ef rfl (ef_storeB [] _ rfl rfl (by first | rfl | assumption) rfl rfl rfl ?_)
      refine xo_rd (rd_assign rfl) rfl ?_
      refine xo_nil ?_
      refine xq_seq ?_
      refine xc_ret ?_
      refine xq_then_ret ?_
    exact xq_retB2 (.inl rfl) Try.results9 rfl rfl Kn.o0 rfl (List.sublist_cons_self _ _) ⟨_, _, _, [], [], [], rfl, PkM.zero, rfl⟩
  obtain ⟨b, o, rfl, hc0⟩ := hr.int (i := 0) (by omega)
  have hcell : ∀ i, (hi : i < bs.length) → ∀ L', (∀ z, z ∈ L → z ∈ L') → Cl W L' b (o + i * 1) (.int .u8 bs[i]) := fun i hi L' hL' => by
    obtain ⟨b', o', he, hci⟩ := (hr.mono hL').int hi
    simp only [Option.some.injEq, Addr.mk.injEq, and_true] at he
    obtain ⟨rfl, rfl⟩ := he
    exact hci
  have hb0 := hb bs[0] (List.getElem_mem _)
  have hb1 := hb bs[1] (List.getElem_mem _)
  unfold By at hb0 hb1
  have hg0 : bs.getD 0 0 = bs[0] := getD_get (by omega)
  have hg1 : bs.getD 1 0 = bs[1] := getD_get (by omega)
  obtain ⟨f0, hf0⟩ : ∃ f, f = bs[0] := ⟨_, rfl⟩
  obtain ⟨f1, hf1⟩ : ∃ f, f = bs[1] := ⟨_, rfl⟩
  have hc0 := fun L' h => hcell 0 (by omega) L' h
  have hc1 := fun L' h => hcell 1 (by omega) L' h
  rw [← hf0] at hb0 hc0 hg0
  rw [← hf1] at hb1 hc1 hg1
  focus
    refine xc_seq ?_
    refine xc_region ?_
    refine xo_ef rfl (ef_alloc fun r2 => ?_)
    refine xo_rd (rd_assign rfl) rfl ?_
    refine xo_nil ?_
    refine xq_seq ?_
    refine xc_seq ?_
    refine xc_seq ?_
    refine xc_region ?_
    refine xo_rd (rd_move rfl) rfl ?_
    refine xo_rd (rd_len rfl) rfl ?_
    refine xo_rd (rd_lss rfl rfl) rfl ?_
    refine xo_nil ?_
    refine xq_seq ?_
    refine xc_dec rfl (fun hq1 => (by exfalso; omega)) (fun hq1 => ?_)
    refine xc_skip ?_
    refine xq_seq ?_
    refine xc_seq ?_
    refine xc_seq ?_
    refine xc_region ?_
    refine xo_rd (rd_move rfl) rfl ?_
    refine xo_rd (rd_indexAddr rfl rfl (by omega) (by omega)) rfl ?_
    refine xo_rd (rd_load1 rfl (hc0 _ (by intro z hz; simp [hz]))) rfl ?_
    refine xo_rd (rd_quon rfl rfl (by omega) (by omega) (by omega) (by omega)) rfl ?_
    refine xo_rd (rd_neq rfl rfl) rfl ?_
    refine xo_nil ?_
    refine xq_seq ?_
    refine xc_ndec rfl (fun hq2 => ?_) (fun hq2 => ?_)
    refine xc_seq ?_
    refine xc_region ?_
    refine xo_rd (rd_build rfl rfl rfl) rfl ?_
    refine xo_ef rfl (ef_storeB [] _ rfl rfl (by first | rfl | assumption) rfl rfl rfl ?_)
    refine xo_rd (rd_assign rfl) rfl ?_
    refine xo_nil ?_
    refine xq_seq ?_
    refine xc_ret ?_
    refine xq_then_ret ?_
    rotate_left
    refine xc_skip ?_
    refine xq_seq ?_
    rotate_left
  · rw [show parseL bs = (20, .zero) from by unfold parseL; rw [if_neg (by omega), hg0, if_pos (by assumption)]]
    exact xq_retB2 (.inl rfl) Try.results9 rfl rfl Kn.o0 rfl (List.sublist_cons_self _ _) ⟨_, _, _, [], [], [], rfl, PkM.zero, rfl⟩
  have hv2 := vl_u2 ((bs.drop 2).take 2) (By.take (By.drop hb 2) 2) (by simp; omega)
  have hv4 := vl_u4 ((bs.drop 4).take 4) (By.take (By.drop hb 4) 4) (by simp; omega)
  have hv8 := vl_u4 ((bs.drop 8).take 4) (By.take (By.drop hb 8) 4) (by simp; omega)
  unfold U4 at hv4 hv8
  obtain ⟨mn, hmn⟩ : ∃ mn : Nat, f0 % 16 = mn := ⟨(f0 % 16).toNat, by omega⟩
  have hmn2 : (f0 % 16).toNat = mn := by omega
  focus
    refine xc_seq ?_
    refine xc_region ?_
    refine xo_rd (rd_move rfl) rfl ?_
    refine xo_rd (rd_indexAddr rfl rfl (by omega) (by omega)) rfl ?_
    refine xo_rd (rd_load1 rfl (hc0 _ (by intro z hz; simp [hz]))) rfl ?_
    refine xo_rd (rd_remn rfl rfl (by omega) (by omega)) rfl ?_
    refine xo_rd (rd_convn rfl (by omega) (by omega)) rfl ?_
    refine xo_rd (rd_assign rfl) rfl ?_
    refine xo_nil ?_
    refine xq_seq ?_
  refine xc_join (ι := Nat) (fun _ => True) (fun r5 => [(r5, .cells #[.bool (decide (128 ≤ f1)), .int .u8 (f1 % 128), .int .u16 (vl ((bs.drop 2).take 2)), .int .u32 (vl ((bs.drop 4).take 4)), .int .u32 (vl ((bs.drop 8).take 4)), .slice none 0 0, .bool (decide (f0 / 16 % 2 = 1)), .int .u16 0, .slice none 0 0, .slice none 0 0, .int .u8 0] 29 (0, 0)), (r2, .cells #[.bool false, .int .u8 0, .int .u16 0, .int .u32 0, .int .u32 0, .slice none 0 0, .bool false, .int .u16 0, .slice none 0 0, .slice none 0 0, .int .u8 0] 29 (0, 0))] ++ L) (fun r5 => [(0, .slice (some ⟨b, o, none⟩) m c), (2, .pointer (some ⟨r2, 0, none⟩)), (4, .int .i64 mn), (5, .pointer (some ⟨r5, 0, none⟩))]) ?_ ?_
  · skip
    focus
      refine xc_drawML [0, 1, 2, 4, 0, 16, 32, 64, 0, 256, 512, 1024, 0, 4096, 9216, 16384, 0, 65536, 147456, 262144, 0, 1048576, 2097152, 4194304, 8388608, 16777216, 34113672, 0, 268435455] [0, 1, 2, 4, 0, 16, 32, 64, 0, 256, 512, 1024, 0, 4096, 9216, 16384, 0, 65536, 147456, 262144, 0, 1048576, 2097152, 4194304, 8388608, 16777216, 34113672, 0, 268435455] (by kernel_rfl) (by kernel_rfl) (by kernel_rfl) ?_
      refine xm_take 0 (m' := 1) rfl (by kernel_rfl) (by first | exact Sb.refl | exact Sb.nil | (repeat (first | exact Sb.nil | exact Sb.refl | exact Sb.app0 | apply Sb.keep | apply Sb.keepApp | apply Sb.cons | apply Sb.app))) (rd_move rfl) rfl (by kernel_rfl) ?_
      refine xm_take 1 (m' := 3) rfl (by kernel_rfl) (by first | exact Sb.refl | exact Sb.nil | (repeat (first | exact Sb.nil | exact Sb.refl | exact Sb.app0 | apply Sb.keep | apply Sb.keepApp | apply Sb.cons | apply Sb.app))) (rd_indexAddr rfl rfl (by omega) (by omega)) rfl (by kernel_rfl) ?_
      refine xm_take 2 (m' := 7) rfl (by kernel_rfl) (by first | exact Sb.refl | exact Sb.nil | (repeat (first | exact Sb.nil | exact Sb.refl | exact Sb.app0 | apply Sb.keep | apply Sb.keepApp | apply Sb.cons | apply Sb.app))) (rd_load1 rfl (hc1 _ (by intro z hz; simp [hz]))) rfl (by kernel_rfl) ?_
      refine xm_take 3 (m' := 15) rfl (by kernel_rfl) (by first | exact Sb.refl | exact Sb.nil | (repeat (first | exact Sb.nil | exact Sb.refl | exact Sb.app0 | apply Sb.keep | apply Sb.keepApp | apply Sb.cons | apply Sb.app))) (rd_geq rfl rfl) rfl (by kernel_rfl) ?_
      refine xm_take 4 (m' := 31) rfl (by kernel_rfl) (by first | exact Sb.refl | exact Sb.nil | (repeat (first | exact Sb.nil | exact Sb.refl | exact Sb.app0 | apply Sb.keep | apply Sb.keepApp | apply Sb.cons | apply Sb.app))) (rd_move rfl) rfl (by kernel_rfl) ?_
      refine xm_take 5 (m' := 63) rfl (by kernel_rfl) (by first | exact Sb.refl | exact Sb.nil | (repeat (first | exact Sb.nil | exact Sb.refl | exact Sb.app0 | apply Sb.keep | apply Sb.keepApp | apply Sb.cons | apply Sb.app))) (rd_indexAddr rfl rfl (by omega) (by omega)) rfl (by kernel_rfl) ?_
      refine xm_take 6 (m' := 127) rfl (by kernel_rfl) (by first | exact Sb.refl | exact Sb.nil | (repeat (first | exact Sb.nil | exact Sb.refl | exact Sb.app0 | apply Sb.keep | apply Sb.keepApp | apply Sb.cons | apply Sb.app))) (rd_load1 rfl (hc1 _ (by intro z hz; simp [hz]))) rfl (by kernel_rfl) ?_
      refine xm_take 7 (m' := 255) rfl (by kernel_rfl) (by first | exact Sb.refl | exact Sb.nil | (repeat (first | exact Sb.nil | exact Sb.refl | exact Sb.app0 | apply Sb.keep | apply Sb.keepApp | apply Sb.cons | apply Sb.app))) (rd_remn rfl rfl (by omega) (by omega)) rfl (by kernel_rfl) ?_
      refine xm_take 8 (m' := 511) rfl (by kernel_rfl) (by first | exact Sb.refl | exact Sb.nil | (repeat (first | exact Sb.nil | exact Sb.refl | exact Sb.app0 | apply Sb.keep | apply Sb.keepApp | apply Sb.cons | apply Sb.app))) (rd_move rfl) rfl (by kernel_rfl) ?_
      refine xm_take 9 (m' := 1023) rfl (by kernel_rfl) (by first | exact Sb.refl | exact Sb.nil | (repeat (first | exact Sb.nil | exact Sb.refl | exact Sb.app0 | apply Sb.keep | apply Sb.keepApp | apply Sb.cons | apply Sb.app))) (rd_slice rfl rfl rfl (by omega) (by omega) (by omega) (by omega)) rfl (by kernel_rfl) ?_
      refine xm_take 12 (m' := 5119) rfl (by kernel_rfl) (by first | exact Sb.refl | exact Sb.nil | (repeat (first | exact Sb.nil | exact Sb.refl | exact Sb.app0 | apply Sb.keep | apply Sb.keepApp | apply Sb.cons | apply Sb.app))) (rd_move rfl) rfl (by kernel_rfl) ?_
      refine xm_take 13 (m' := 13311) rfl (by kernel_rfl) (by first | exact Sb.refl | exact Sb.nil | (repeat (first | exact Sb.nil | exact Sb.refl | exact Sb.app0 | apply Sb.keep | apply Sb.keepApp | apply Sb.cons | apply Sb.app))) (rd_slice rfl rfl rfl (by omega) (by omega) (by omega) (by omega)) rfl (by kernel_rfl) ?_
      refine xm_take 16 (m' := 78847) rfl (by kernel_rfl) (by first | exact Sb.refl | exact Sb.nil | (repeat (first | exact Sb.nil | exact Sb.refl | exact Sb.app0 | apply Sb.keep | apply Sb.keepApp | apply Sb.cons | apply Sb.app))) (rd_move rfl) rfl (by kernel_rfl) ?_
      refine xm_take 17 (m' := 209919) rfl (by kernel_rfl) (by first | exact Sb.refl | exact Sb.nil | (repeat (first | exact Sb.nil | exact Sb.refl | exact Sb.app0 | apply Sb.keep | apply Sb.keepApp | apply Sb.cons | apply Sb.app))) (rd_slice rfl rfl rfl (by omega) (by omega) (by omega) (by omega)) rfl (by kernel_rfl) ?_
      refine xm_take 20 (m' := 1258495) rfl (by kernel_rfl) (by first | exact Sb.refl | exact Sb.nil | (repeat (first | exact Sb.nil | exact Sb.refl | exact Sb.app0 | apply Sb.keep | apply Sb.keepApp | apply Sb.cons | apply Sb.app))) (rd_move rfl) rfl (by kernel_rfl) ?_
      refine xm_take 21 (m' := 3355647) rfl (by kernel_rfl) (by first | exact Sb.refl | exact Sb.nil | (repeat (first | exact Sb.nil | exact Sb.refl | exact Sb.app0 | apply Sb.keep | apply Sb.keepApp | apply Sb.cons | apply Sb.app))) (rd_indexAddr rfl rfl (by omega) (by omega)) rfl (by kernel_rfl) ?_
      refine xm_take 22 (m' := 7549951) rfl (by kernel_rfl) (by first | exact Sb.refl | exact Sb.nil | (repeat (first | exact Sb.nil | exact Sb.refl | exact Sb.app0 | apply Sb.keep | apply Sb.keepApp | apply Sb.cons | apply Sb.app))) (rd_load1 rfl (hc0 _ (by intro z hz; simp [hz]))) rfl (by kernel_rfl) ?_
      refine xm_take 23 (m' := 15938559) rfl (by kernel_rfl) (by first | exact Sb.refl | exact Sb.nil | (repeat (first | exact Sb.nil | exact Sb.refl | exact Sb.app0 | apply Sb.keep | apply Sb.keepApp | apply Sb.cons | apply Sb.app))) (rd_quon rfl rfl (by omega) (by omega) (by omega) (by omega)) rfl (by kernel_rfl) ?_
      refine xm_take 24 (m' := 32715775) rfl (by kernel_rfl) (by first | exact Sb.refl | exact Sb.nil | (repeat (first | exact Sb.nil | exact Sb.refl | exact Sb.app0 | apply Sb.keep | apply Sb.keepApp | apply Sb.cons | apply Sb.app))) (rd_remn rfl rfl (by omega) (by omega)) rfl (by kernel_rfl) ?_
      refine xm_take 25 (m' := 66270207) rfl (by kernel_rfl) (by first | exact Sb.refl | exact Sb.nil | (repeat (first | exact Sb.nil | exact Sb.refl | exact Sb.app0 | apply Sb.keep | apply Sb.keepApp | apply Sb.cons | apply Sb.app))) (rd_eql rfl rfl) rfl (by kernel_rfl) ?_
      refine xm_two 10 27 (mi := 66271231) (mk := 200487935) rfl rfl (by kernel_rfl) rfl rfl (by kernel_rfl) (by kernel_rfl) (ef_call rfl (XF.mono (xf_value (some ⟨b, o + 2 * 1, none⟩) 2 (c - 2) ((bs.drop 2).take 2) (by simp; omega) (hr.sub2 2 2 (by intro z hz; simp [hz])) (By.take (By.drop hb 2) 2) (by omega)) ?_)) (ef_alloc fun r5 => ⟨(by first | exact Sb.refl | exact Sb.nil | (repeat (first | exact Sb.nil | exact Sb.refl | exact Sb.app0 | apply Sb.keep | apply Sb.keepApp | apply Sb.cons | apply Sb.app))), ?_⟩)
      rotate_left
      rotate_right
      rintro v L' ⟨rfl, rfl⟩
      refine ⟨(by first | exact Sb.refl | exact Sb.nil | (repeat (first | exact Sb.nil | exact Sb.refl | exact Sb.app0 | apply Sb.keep | apply Sb.keepApp | apply Sb.cons | apply Sb.app))), ?_⟩
      refine xm_take 11 (m' := 66273279) rfl (by kernel_rfl) (by first | exact Sb.refl | exact Sb.nil | (repeat (first | exact Sb.nil | exact Sb.refl | exact Sb.app0 | apply Sb.keep | apply Sb.keepApp | apply Sb.cons | apply Sb.app))) (rd_convn rfl (by omega) (by omega)) rfl (by kernel_rfl) ?_
      refine xm_two 14 27 (mi := 66289663) (mk := 200491007) rfl rfl (by kernel_rfl) rfl rfl (by kernel_rfl) (by kernel_rfl) (ef_call rfl (XF.mono (xf_value (some ⟨b, o + 4 * 1, none⟩) 4 (c - 4) ((bs.drop 4).take 4) (by simp; omega) (hr.sub2 4 4 (by intro z hz; simp [hz])) (By.take (By.drop hb 4) 4) (by omega)) ?_)) (ef_alloc fun r5 => ⟨(by first | exact Sb.refl | exact Sb.nil | (repeat (first | exact Sb.nil | exact Sb.refl | exact Sb.app0 | apply Sb.keep | apply Sb.keepApp | apply Sb.cons | apply Sb.app))), ?_⟩)
      rotate_left
      rotate_right
      rintro v L' ⟨rfl, rfl⟩
      refine ⟨(by first | exact Sb.refl | exact Sb.nil | (repeat (first | exact Sb.nil | exact Sb.refl | exact Sb.app0 | apply Sb.keep | apply Sb.keepApp | apply Sb.cons | apply Sb.app))), ?_⟩
      refine xm_take 15 (m' := 66322431) rfl (by kernel_rfl) (by first | exact Sb.refl | exact Sb.nil | (repeat (first | exact Sb.nil | exact Sb.refl | exact Sb.app0 | apply Sb.keep | apply Sb.keepApp | apply Sb.cons | apply Sb.app))) (rd_convn rfl (by omega) (by omega)) rfl (by kernel_rfl) ?_
      refine xm_two 18 27 (mi := 66584575) (mk := 200540159) rfl rfl (by kernel_rfl) rfl rfl (by kernel_rfl) (by kernel_rfl) (ef_call rfl (XF.mono (xf_value (some ⟨b, o + 8 * 1, none⟩) 4 (c - 8) ((bs.drop 8).take 4) (by simp; omega) (hr.sub2 8 4 (by intro z hz; simp [hz])) (By.take (By.drop hb 8) 4) (by omega)) ?_)) (ef_alloc fun r5 => ⟨(by first | exact Sb.refl | exact Sb.nil | (repeat (first | exact Sb.nil | exact Sb.refl | exact Sb.app0 | apply Sb.keep | apply Sb.keepApp | apply Sb.cons | apply Sb.app))), ?_⟩)
      rotate_left
      rotate_right
      rintro v L' ⟨rfl, rfl⟩
      refine ⟨(by first | exact Sb.refl | exact Sb.nil | (repeat (first | exact Sb.nil | exact Sb.refl | exact Sb.app0 | apply Sb.keep | apply Sb.keepApp | apply Sb.cons | apply Sb.app))), ?_⟩
      refine xm_take 19 (m' := 67108863) rfl (by kernel_rfl) (by first | exact Sb.refl | exact Sb.nil | (repeat (first | exact Sb.nil | exact Sb.refl | exact Sb.app0 | apply Sb.keep | apply Sb.keepApp | apply Sb.cons | apply Sb.app))) (rd_convn rfl (by omega) (by omega)) rfl (by kernel_rfl) ?_
      refine xm_take 26 (m' := 134217727) rfl (by kernel_rfl) (by first | exact Sb.refl | exact Sb.nil | (repeat (first | exact Sb.nil | exact Sb.refl | exact Sb.app0 | apply Sb.keep | apply Sb.keepApp | apply Sb.cons | apply Sb.app))) (rd_build rfl rfl rfl) rfl (by kernel_rfl) ?_
      refine xm_one 27 (m' := 268435455) rfl (by kernel_rfl) rfl (by kernel_rfl) (ef_alloc fun r5 => ?_)
      refine ⟨(by first | exact Sb.refl | exact Sb.nil | (repeat (first | exact Sb.nil | exact Sb.refl | exact Sb.app0 | apply Sb.keep | apply Sb.keepApp | apply Sb.cons | apply Sb.app))), ?_⟩
      refine xm_one 28 (m' := 536870911) rfl (by kernel_rfl) rfl (by kernel_rfl) (ef_storeB [] _ rfl rfl (by first | rfl | assumption) rfl rfl rfl ?_)
      refine ⟨(by first | exact Sb.refl | exact Sb.nil | (repeat (first | exact Sb.nil | exact Sb.refl | exact Sb.app0 | apply Sb.keep | apply Sb.keepApp | apply Sb.cons | apply Sb.app))), ?_⟩
      refine xm_done (by kernel_rfl) ?_
      rotate_left
      refine xm_one 18 (m' := 200802303) rfl (by kernel_rfl) rfl (by kernel_rfl) (ef_call rfl (XF.mono (xf_value (some ⟨b, o + 8 * 1, none⟩) 4 (c - 8) ((bs.drop 8).take 4) (by simp; omega) (hr.sub2 8 4 (by intro z hz; simp [hz])) (By.take (By.drop hb 8) 4) (by omega)) ?_))
      rintro v L' ⟨rfl, rfl⟩
      refine ⟨(by first | exact Sb.refl | exact Sb.nil | (repeat (first | exact Sb.nil | exact Sb.refl | exact Sb.app0 | apply Sb.keep | apply Sb.keepApp | apply Sb.cons | apply Sb.app))), ?_⟩
      refine xm_take 19 (m' := 201326591) rfl (by kernel_rfl) (by first | exact Sb.refl | exact Sb.nil | (repeat (first | exact Sb.nil | exact Sb.refl | exact Sb.app0 | apply Sb.keep | apply Sb.keepApp | apply Sb.cons | apply Sb.app))) (rd_convn rfl (by omega) (by omega)) rfl (by kernel_rfl) ?_
      refine xm_take 26 (m' := 268435455) rfl (by kernel_rfl) (by first | exact Sb.refl | exact Sb.nil | (repeat (first | exact Sb.nil | exact Sb.refl | exact Sb.app0 | apply Sb.keep | apply Sb.keepApp | apply Sb.cons | apply Sb.app))) (rd_build rfl rfl rfl) rfl (by kernel_rfl) ?_
      refine xm_one 28 (m' := 536870911) rfl (by kernel_rfl) rfl (by kernel_rfl) (ef_storeB [] _ rfl rfl (by first | rfl | assumption) rfl rfl rfl ?_)
      refine ⟨(by first | exact Sb.refl | exact Sb.nil | (repeat (first | exact Sb.nil | exact Sb.refl | exact Sb.app0 | apply Sb.keep | apply Sb.keepApp | apply Sb.cons | apply Sb.app))), ?_⟩
      refine xm_done (by kernel_rfl) ?_
      rotate_left
      refine xm_one 14 (m' := 200507391) rfl (by kernel_rfl) rfl (by kernel_rfl) (ef_call rfl (XF.mono (xf_value (some ⟨b, o + 4 * 1, none⟩) 4 (c - 4) ((bs.drop 4).take 4) (by simp; omega) (hr.sub2 4 4 (by intro z hz; simp [hz])) (By.take (By.drop hb 4) 4) (by omega)) ?_))
      rintro v L' ⟨rfl, rfl⟩
      refine ⟨(by first | exact Sb.refl | exact Sb.nil | (repeat (first | exact Sb.nil | exact Sb.refl | exact Sb.app0 | apply Sb.keep | apply Sb.keepApp | apply Sb.cons | apply Sb.app))), ?_⟩
      refine xm_take 15 (m' := 200540159) rfl (by kernel_rfl) (by first | exact Sb.refl | exact Sb.nil | (repeat (first | exact Sb.nil | exact Sb.refl | exact Sb.app0 | apply Sb.keep | apply Sb.keepApp | apply Sb.cons | apply Sb.app))) (rd_convn rfl (by omega) (by omega)) rfl (by kernel_rfl) ?_
      refine xm_one 18 (m' := 200802303) rfl (by kernel_rfl) rfl (by kernel_rfl) (ef_call rfl (XF.mono (xf_value (some ⟨b, o + 8 * 1, none⟩) 4 (c - 8) ((bs.drop 8).take 4) (by simp; omega) (hr.sub2 8 4 (by intro z hz; simp [hz])) (By.take (By.drop hb 8) 4) (by omega)) ?_))
      rintro v L' ⟨rfl, rfl⟩
      refine ⟨(by first | exact Sb.refl | exact Sb.nil | (repeat (first | exact Sb.nil | exact Sb.refl | exact Sb.app0 | apply Sb.keep | apply Sb.keepApp | apply Sb.cons | apply Sb.app))), ?_⟩
      refine xm_take 19 (m' := 201326591) rfl (by kernel_rfl) (by first | exact Sb.refl | exact Sb.nil | (repeat (first | exact Sb.nil | exact Sb.refl | exact Sb.app0 | apply Sb.keep | apply Sb.keepApp | apply Sb.cons | apply Sb.app))) (rd_convn rfl (by omega) (by omega)) rfl (by kernel_rfl) ?_
      refine xm_take 26 (m' := 268435455) rfl (by kernel_rfl) (by first | exact Sb.refl | exact Sb.nil | (repeat (first | exact Sb.nil | exact Sb.refl | exact Sb.app0 | apply Sb.keep | apply Sb.keepApp | apply Sb.cons | apply Sb.app))) (rd_build rfl rfl rfl) rfl (by kernel_rfl) ?_
      refine xm_one 28 (m' := 536870911) rfl (by kernel_rfl) rfl (by kernel_rfl) (ef_storeB [] _ rfl rfl (by first | rfl | assumption) rfl rfl rfl ?_)
      refine ⟨(by first | exact Sb.refl | exact Sb.nil | (repeat (first | exact Sb.nil | exact Sb.refl | exact Sb.app0 | apply Sb.keep | apply Sb.keepApp | apply Sb.cons | apply Sb.app))), ?_⟩
      refine xm_done (by kernel_rfl) ?_
      rotate_left
      refine xm_one 10 (m' := 200488959) rfl (by kernel_rfl) rfl (by kernel_rfl) (ef_call rfl (XF.mono (xf_value (some ⟨b, o + 2 * 1, none⟩) 2 (c - 2) ((bs.drop 2).take 2) (by simp; omega) (hr.sub2 2 2 (by intro z hz; simp [hz])) (By.take (By.drop hb 2) 2) (by omega)) ?_))
      rintro v L' ⟨rfl, rfl⟩
      refine ⟨(by first | exact Sb.refl | exact Sb.nil | (repeat (first | exact Sb.nil | exact Sb.refl | exact Sb.app0 | apply Sb.keep | apply Sb.keepApp | apply Sb.cons | apply Sb.app))), ?_⟩
      refine xm_take 11 (m' := 200491007) rfl (by kernel_rfl) (by first | exact Sb.refl | exact Sb.nil | (repeat (first | exact Sb.nil | exact Sb.refl | exact Sb.app0 | apply Sb.keep | apply Sb.keepApp | apply Sb.cons | apply Sb.app))) (rd_convn rfl (by omega) (by omega)) rfl (by kernel_rfl) ?_
      refine xm_one 14 (m' := 200507391) rfl (by kernel_rfl) rfl (by kernel_rfl) (ef_call rfl (XF.mono (xf_value (some ⟨b, o + 4 * 1, none⟩) 4 (c - 4) ((bs.drop 4).take 4) (by simp; omega) (hr.sub2 4 4 (by intro z hz; simp [hz])) (By.take (By.drop hb 4) 4) (by omega)) ?_))
      rintro v L' ⟨rfl, rfl⟩
      refine ⟨(by first | exact Sb.refl | exact Sb.nil | (repeat (first | exact Sb.nil | exact Sb.refl | exact Sb.app0 | apply Sb.keep | apply Sb.keepApp | apply Sb.cons | apply Sb.app))), ?_⟩
      refine xm_take 15 (m' := 200540159) rfl (by kernel_rfl) (by first | exact Sb.refl | exact Sb.nil | (repeat (first | exact Sb.nil | exact Sb.refl | exact Sb.app0 | apply Sb.keep | apply Sb.keepApp | apply Sb.cons | apply Sb.app))) (rd_convn rfl (by omega) (by omega)) rfl (by kernel_rfl) ?_
      refine xm_one 18 (m' := 200802303) rfl (by kernel_rfl) rfl (by kernel_rfl) (ef_call rfl (XF.mono (xf_value (some ⟨b, o + 8 * 1, none⟩) 4 (c - 8) ((bs.drop 8).take 4) (by simp; omega) (hr.sub2 8 4 (by intro z hz; simp [hz])) (By.take (By.drop hb 8) 4) (by omega)) ?_))
      rintro v L' ⟨rfl, rfl⟩
      refine ⟨(by first | exact Sb.refl | exact Sb.nil | (repeat (first | exact Sb.nil | exact Sb.refl | exact Sb.app0 | apply Sb.keep | apply Sb.keepApp | apply Sb.cons | apply Sb.app))), ?_⟩
      refine xm_take 19 (m' := 201326591) rfl (by kernel_rfl) (by first | exact Sb.refl | exact Sb.nil | (repeat (first | exact Sb.nil | exact Sb.refl | exact Sb.app0 | apply Sb.keep | apply Sb.keepApp | apply Sb.cons | apply Sb.app))) (rd_convn rfl (by omega) (by omega)) rfl (by kernel_rfl) ?_
      refine xm_take 26 (m' := 268435455) rfl (by kernel_rfl) (by first | exact Sb.refl | exact Sb.nil | (repeat (first | exact Sb.nil | exact Sb.refl | exact Sb.app0 | apply Sb.keep | apply Sb.keepApp | apply Sb.cons | apply Sb.app))) (rd_build rfl rfl rfl) rfl (by kernel_rfl) ?_
      refine xm_one 28 (m' := 536870911) rfl (by kernel_rfl) rfl (by kernel_rfl) (ef_storeB [] _ rfl rfl (by first | rfl | assumption) rfl rfl rfl ?_)
      refine ⟨(by first | exact Sb.refl | exact Sb.nil | (repeat (first | exact Sb.nil | exact Sb.refl | exact Sb.app0 | apply Sb.keep | apply Sb.keepApp | apply Sb.cons | apply Sb.app))), ?_⟩
      refine xm_done (by kernel_rfl) ?_
      rotate_left
    all_goals rw [hmn]
    all_goals exact xq_joined r5 trivial rfl (by repeat (first | exact keep_nil | refine keep_cons rfl ?_))
  · rintro r5 _
    have hps : (bs.drop 12).length < 4 * mn → parseL bs = (10, .zero) := fun h1 => by
      unfold parseL; rw [if_neg (by omega), hg0, if_neg (by omega), hmn2, if_pos h1]
    focus
      refine xc_seq ?_
      refine xc_region ?_
      refine xo_rd (rd_move rfl) rfl ?_
      refine xo_rd (rd_muln rfl rfl (by omega) (by omega)) rfl ?_
      refine xo_rd (rd_addn rfl rfl (by omega) (by omega)) rfl ?_
      refine xo_rd (rd_assign rfl) rfl ?_
      refine xo_nil ?_
      refine xq_seq ?_
      refine xc_seq ?_
      refine xc_seq ?_
      refine xc_region ?_
      refine xo_rd (rd_move rfl) rfl ?_
      refine xo_rd (rd_len rfl) rfl ?_
      refine xo_rd (rd_move rfl) rfl ?_
      refine xo_rd (rd_lss rfl rfl) rfl ?_
      refine xo_nil ?_
      refine xq_seq ?_
      refine xc_dec rfl (fun h1 => ?_) (fun h1 => ?_)
      refine xc_seq ?_
      refine xc_region ?_
      refine xo_rd (rd_build rfl rfl rfl) rfl ?_
      refine xo_ef rfl (ef_storeB [_] _ rfl rfl (by first | rfl | assumption) rfl rfl rfl ?_)
      refine xo_rd (rd_assign rfl) rfl ?_
      refine xo_nil ?_
      refine xq_seq ?_
      refine xc_ret ?_
      refine xq_then_ret ?_
      rotate_left
      refine xc_skip ?_
      refine xq_seq ?_
      rotate_left
    · rw [hps (by rw [List.length_drop]; omega)]
      exact xq_retB2 (L' := L) (.inl rfl) Try.results9 rfl rfl Kn.o1 rfl ((List.sublist_cons_self _ _).trans (List.sublist_cons_self _ _)) ⟨_, _, _, [], [], [], rfl, PkM.zero, rfl⟩
    have hpe : ¬ (bs.drop 12).length < 4 * mn := by rw [List.length_drop]; omega
    have hdd : (bs.drop 12).drop (4 * mn) = bs.drop (12 + 4 * mn) := List.drop_drop ..
    refine xc_join (ι := PrS) (fun s => s.j = mn ∧ SlO 1 26 s.v s.j (ints .u32 (chunks s.j (bs.drop 12))) s.l) (fun s => (r5, .cells #[.bool (decide (128 ≤ f1)), .int .u8 (f1 % 128), .int .u16 (vl ((bs.drop 2).take 2)), .int .u32 (vl ((bs.drop 4).take 4)), .int .u32 (vl ((bs.drop 8).take 4)), s.v, .bool (decide (f0 / 16 % 2 = 1)), .int .u16 0, .slice none 0 0, .slice none 0 0, .int .u8 0] 29 (0, 0)) :: (r2, .cells #[.bool false, .int .u8 0, .int .u16 0, .int .u32 0, .int .u32 0, .slice none 0 0, .bool false, .int .u16 0, .slice none 0 0, .slice none 0 0, .int .u8 0] 29 (0, 0)) :: (s.l ++ L)) (fun s => [(0, .slice (some ⟨b, o, none⟩) m c), (2, .pointer (some ⟨r2, 0, none⟩)), (5, .pointer (some ⟨r5, 0, none⟩)), (6, .int .i64 (12 + 4 * (mn : Int)))]) ?_ ?_
    · focus
        refine xc_seq ?_
        refine xc_region ?_
        refine xo_rd (rd_assign rfl) rfl ?_
        refine xo_nil ?_
        refine xq_seq ?_
        refine xc_block ?_
      refine xc_loopI (ι := PrS) (fun s => s.j ≤ mn ∧ SlO 1 26 s.v s.j (ints .u32 (chunks s.j (bs.drop 12))) s.l) (fun s => mn - s.j) (fun s => (r5, .cells #[.bool (decide (128 ≤ f1)), .int .u8 (f1 % 128), .int .u16 (vl ((bs.drop 2).take 2)), .int .u32 (vl ((bs.drop 4).take 4)), .int .u32 (vl ((bs.drop 8).take 4)), s.v, .bool (decide (f0 / 16 % 2 = 1)), .int .u16 0, .slice none 0 0, .slice none 0 0, .int .u8 0] 29 (0, 0)) :: (r2, .cells #[.bool false, .int .u8 0, .int .u16 0, .int .u32 0, .int .u32 0, .slice none 0 0, .bool false, .int .u16 0, .slice none 0 0, .slice none 0 0, .int .u8 0] 29 (0, 0)) :: (s.l ++ L)) (fun s => [(0, .slice (some ⟨b, o, none⟩) m c), (2, .pointer (some ⟨r2, 0, none⟩)), (5, .pointer (some ⟨r5, 0, none⟩)), (4, .int .i64 mn), (6, .int .i64 (12 + 4 * (mn : Int))), (7, .int .i64 s.j)]) ⟨0, .slice none 0 0, []⟩ ⟨Nat.zero_le _, SlO.nil⟩ rfl (by repeat (first | exact keep_nil | refine keep_cons rfl ?_)) ?_
      rintro ⟨j, vj, lj⟩ ⟨hj, hOj⟩
      dsimp only at hj hOj ⊢
      have hu := vl_u4 ((bs.drop (12 + 4 * j)).take 4) (By.take (By.drop hb _) 4) (by rw [List.length_take]; omega)
      unfold U4 at hu
      focus
        refine xc_seq ?_
        refine xc_seq ?_
        refine xc_region ?_
        refine xo_rd (rd_move rfl) rfl ?_
        refine xo_rd (rd_move rfl) rfl ?_
        refine xo_rd (rd_lss rfl rfl) rfl ?_
        refine xo_nil ?_
        refine xq_seq ?_
        refine xc_dec rfl (fun hw1 => ?_) (fun hw1 => ?_)
        refine xc_skip ?_
        refine xq_seq ?_
        refine xc_seq ?_
        refine xc_block ?_
        refine xc_drawM [0, 1, 0, 0, 8, 16, 0, 64, 128, 292, 512, 1024, 2048, 5122, 16383, 32767] [0, 1, 0, 0, 8, 16, 0, 64, 128, 292, 512, 1024, 2048, 5122, 16383, 32767] [] (by kernel_rfl) (by kernel_rfl) (by kernel_rfl) ?_
        refine xm_take 0 (m' := 1) rfl (by kernel_rfl) (by first | exact Sb.refl | exact Sb.nil | (repeat (first | exact Sb.nil | exact Sb.refl | exact Sb.app0 | apply Sb.keep | apply Sb.keepApp | apply Sb.cons | apply Sb.app))) (rd_fieldAddr rfl) rfl (by kernel_rfl) ?_
        refine xm_take 2 (m' := 5) rfl (by kernel_rfl) (by first | exact Sb.refl | exact Sb.nil | (repeat (first | exact Sb.nil | exact Sb.refl | exact Sb.app0 | apply Sb.keep | apply Sb.keepApp | apply Sb.cons | apply Sb.app))) (rd_move rfl) rfl (by kernel_rfl) ?_
        refine xm_take 3 (m' := 13) rfl (by kernel_rfl) (by first | exact Sb.refl | exact Sb.nil | (repeat (first | exact Sb.nil | exact Sb.refl | exact Sb.app0 | apply Sb.keep | apply Sb.keepApp | apply Sb.cons | apply Sb.app))) (rd_move rfl) rfl (by kernel_rfl) ?_
        refine xm_take 4 (m' := 29) rfl (by kernel_rfl) (by first | exact Sb.refl | exact Sb.nil | (repeat (first | exact Sb.nil | exact Sb.refl | exact Sb.app0 | apply Sb.keep | apply Sb.keepApp | apply Sb.cons | apply Sb.app))) (rd_muln rfl rfl (by omega) (by omega)) rfl (by kernel_rfl) ?_
        refine xm_take 5 (m' := 61) rfl (by kernel_rfl) (by first | exact Sb.refl | exact Sb.nil | (repeat (first | exact Sb.nil | exact Sb.refl | exact Sb.app0 | apply Sb.keep | apply Sb.keepApp | apply Sb.cons | apply Sb.app))) (rd_addn rfl rfl (by omega) (by omega)) rfl (by kernel_rfl) ?_
        refine xm_take 6 (m' := 125) rfl (by kernel_rfl) (by first | exact Sb.refl | exact Sb.nil | (repeat (first | exact Sb.nil | exact Sb.refl | exact Sb.app0 | apply Sb.keep | apply Sb.keepApp | apply Sb.cons | apply Sb.app))) (rd_move rfl) rfl (by kernel_rfl) ?_
        refine xm_take 7 (m' := 253) rfl (by kernel_rfl) (by first | exact Sb.refl | exact Sb.nil | (repeat (first | exact Sb.nil | exact Sb.refl | exact Sb.app0 | apply Sb.keep | apply Sb.keepApp | apply Sb.cons | apply Sb.app))) (rd_muln rfl rfl (by omega) (by omega)) rfl (by kernel_rfl) ?_
        refine xm_take 8 (m' := 509) rfl (by kernel_rfl) (by first | exact Sb.refl | exact Sb.nil | (repeat (first | exact Sb.nil | exact Sb.refl | exact Sb.app0 | apply Sb.keep | apply Sb.keepApp | apply Sb.cons | apply Sb.app))) (rd_addn rfl rfl (by omega) (by omega)) rfl (by kernel_rfl) ?_
        refine xm_take 9 (m' := 1021) rfl (by kernel_rfl) (by first | exact Sb.refl | exact Sb.nil | (repeat (first | exact Sb.nil | exact Sb.refl | exact Sb.app0 | apply Sb.keep | apply Sb.keepApp | apply Sb.cons | apply Sb.app))) (rd_slice rfl rfl rfl (by omega) (by omega) (by omega) (by omega)) rfl (by kernel_rfl) ?_
        refine xm_two 1 10 (mi := 1023) (mk := 2045) rfl rfl (by kernel_rfl) rfl rfl (by kernel_rfl) (by kernel_rfl) (ef_rd (rd_load1 rfl (Cl.o0 rfl)) ⟨(by first | exact Sb.refl | exact Sb.nil | (repeat (first | exact Sb.nil | exact Sb.refl | exact Sb.app0 | apply Sb.keep | apply Sb.keepApp | apply Sb.cons | apply Sb.app))), ?_⟩) (ef_call rfl (XF.mono (xf_value _ _ _ ((bs.drop (12 + 4 * j)).take 4) (by rw [List.length_take, List.length_drop]; omega) (hr.subI _ (12 + 4 * j) 4 (by omega) (by intro z hz; simp [hz])) (By.take (By.drop hb _) 4) (by omega)) ?_))
        rotate_left
        rintro v L' ⟨rfl, rfl⟩
        refine ⟨(by first | exact Sb.refl | exact Sb.nil | (repeat (first | exact Sb.nil | exact Sb.refl | exact Sb.app0 | apply Sb.keep | apply Sb.keepApp | apply Sb.cons | apply Sb.app))), ?_⟩
        rotate_right
        refine xm_one 10 (m' := 2047) rfl (by kernel_rfl) rfl (by kernel_rfl) (ef_call rfl (XF.mono (xf_value _ _ _ ((bs.drop (12 + 4 * j)).take 4) (by rw [List.length_take, List.length_drop]; omega) (hr.subI _ (12 + 4 * j) 4 (by omega) (by intro z hz; simp [hz])) (By.take (By.drop hb _) 4) (by omega)) ?_))
        rintro v L' ⟨rfl, rfl⟩
        refine ⟨(by first | exact Sb.refl | exact Sb.nil | (repeat (first | exact Sb.nil | exact Sb.refl | exact Sb.app0 | apply Sb.keep | apply Sb.keepApp | apply Sb.cons | apply Sb.app))), ?_⟩
        refine xm_take 11 (m' := 4095) rfl (by kernel_rfl) (by first | exact Sb.refl | exact Sb.nil | (repeat (first | exact Sb.nil | exact Sb.refl | exact Sb.app0 | apply Sb.keep | apply Sb.keepApp | apply Sb.cons | apply Sb.app))) (rd_convn rfl (by omega) (by omega)) rfl (by kernel_rfl) ?_
        refine xm_one 12 (m' := 8191) rfl (by kernel_rfl) rfl (by kernel_rfl) (ef_slice1 rfl rfl rfl fun r77 => ?_)
        refine ⟨(by first | exact Sb.refl | exact Sb.nil | (repeat (first | exact Sb.nil | exact Sb.refl | exact Sb.app0 | apply Sb.keep | apply Sb.keepApp | apply Sb.cons | apply Sb.app))), ?_⟩
        refine xm_one 13 (m' := 16383) rfl (by kernel_rfl) rfl (by kernel_rfl) (ef_appendS [_, _, _] L lj (news := [.int .u32 (vl ((bs.drop (12 + 4 * j)).take 4))]) rfl rfl hOj rfl (Rs.fresh (List.Mem.head _)) rfl rfl (by decide) (by omega) (by omega) fun q' k' l' hO' hck => ?_)
        refine ⟨(by first | exact Sb.refl | exact Sb.nil | (repeat (first | exact Sb.nil | exact Sb.refl | exact Sb.app0 | apply Sb.keep | apply Sb.keepApp | apply Sb.cons | apply Sb.app))), ?_⟩
        refine xm_take 14 (m' := 32767) rfl (by kernel_rfl) (by first | exact Sb.refl | exact Sb.nil | (repeat (first | exact Sb.nil | exact Sb.refl | exact Sb.app0 | apply Sb.keep | apply Sb.keepApp | apply Sb.cons | apply Sb.app))) (rd_fieldAddr rfl) rfl (by kernel_rfl) ?_
        refine xm_one 15 (m' := 65535) rfl (by kernel_rfl) rfl (by kernel_rfl) (ef_store1 [_] _ rfl rfl (by first | rfl | assumption) rfl rfl rfl ?_)
        refine ⟨(by first | exact Sb.refl | exact Sb.nil | (repeat (first | exact Sb.nil | exact Sb.refl | exact Sb.app0 | apply Sb.keep | apply Sb.keepApp | apply Sb.cons | apply Sb.app))), ?_⟩
        refine xm_done (by kernel_rfl) ?_
        refine xq_block ?_
        refine xq_seq ?_
        refine xc_region ?_
        refine xo_rd (rd_move rfl) rfl ?_
        refine xo_rd (rd_addn rfl rfl (by omega) (by omega)) rfl ?_
        refine xo_rd (rd_assign rfl) rfl ?_
        refine xo_nil ?_
        rotate_left
        refine xm_take 11 (m' := 4093) rfl (by kernel_rfl) (by first | exact Sb.refl | exact Sb.nil | (repeat (first | exact Sb.nil | exact Sb.refl | exact Sb.app0 | apply Sb.keep | apply Sb.keepApp | apply Sb.cons | apply Sb.app))) (rd_convn rfl (by omega) (by omega)) rfl (by kernel_rfl) ?_
        refine xm_two 1 12 (mi := 4095) (mk := 8189) rfl rfl (by kernel_rfl) rfl rfl (by kernel_rfl) (by kernel_rfl) (ef_rd (rd_load1 rfl (Cl.o0 rfl)) ⟨(by first | exact Sb.refl | exact Sb.nil | (repeat (first | exact Sb.nil | exact Sb.refl | exact Sb.app0 | apply Sb.keep | apply Sb.keepApp | apply Sb.cons | apply Sb.app))), ?_⟩) (ef_slice1 rfl rfl rfl fun r77 => ⟨(by first | exact Sb.refl | exact Sb.nil | (repeat (first | exact Sb.nil | exact Sb.refl | exact Sb.app0 | apply Sb.keep | apply Sb.keepApp | apply Sb.cons | apply Sb.app))), ?_⟩)
        refine xm_one 12 (m' := 8191) rfl (by kernel_rfl) rfl (by kernel_rfl) (ef_slice1 rfl rfl rfl fun r77 => ?_)
        refine ⟨(by first | exact Sb.refl | exact Sb.nil | (repeat (first | exact Sb.nil | exact Sb.refl | exact Sb.app0 | apply Sb.keep | apply Sb.keepApp | apply Sb.cons | apply Sb.app))), ?_⟩
        refine xm_one 13 (m' := 16383) rfl (by kernel_rfl) rfl (by kernel_rfl) (ef_appendS [_, _, _] L lj (news := [.int .u32 (vl ((bs.drop (12 + 4 * j)).take 4))]) rfl rfl hOj rfl (Rs.fresh (List.Mem.head _)) rfl rfl (by decide) (by omega) (by omega) fun q' k' l' hO' hck => ?_)
        refine ⟨(by first | exact Sb.refl | exact Sb.nil | (repeat (first | exact Sb.nil | exact Sb.refl | exact Sb.app0 | apply Sb.keep | apply Sb.keepApp | apply Sb.cons | apply Sb.app))), ?_⟩
        refine xm_take 14 (m' := 32767) rfl (by kernel_rfl) (by first | exact Sb.refl | exact Sb.nil | (repeat (first | exact Sb.nil | exact Sb.refl | exact Sb.app0 | apply Sb.keep | apply Sb.keepApp | apply Sb.cons | apply Sb.app))) (rd_fieldAddr rfl) rfl (by kernel_rfl) ?_
        refine xm_one 15 (m' := 65535) rfl (by kernel_rfl) rfl (by kernel_rfl) (ef_store1 [_] _ rfl rfl (by first | rfl | assumption) rfl rfl rfl ?_)
        refine ⟨(by first | exact Sb.refl | exact Sb.nil | (repeat (first | exact Sb.nil | exact Sb.refl | exact Sb.app0 | apply Sb.keep | apply Sb.keepApp | apply Sb.cons | apply Sb.app))), ?_⟩
        refine xm_done (by kernel_rfl) ?_
        refine xq_block ?_
        refine xq_seq ?_
        refine xc_region ?_
        refine xo_rd (rd_move rfl) rfl ?_
        refine xo_rd (rd_addn rfl rfl (by omega) (by omega)) rfl ?_
        refine xo_rd (rd_assign rfl) rfl ?_
        refine xo_nil ?_
        rotate_left
        refine xm_one 1 (m' := 8191) rfl (by kernel_rfl) rfl (by kernel_rfl) (ef_rd (rd_load1 rfl (Cl.o1 rfl)) ?_)
        refine ⟨(by first | exact Sb.refl | exact Sb.nil | (repeat (first | exact Sb.nil | exact Sb.refl | exact Sb.app0 | apply Sb.keep | apply Sb.keepApp | apply Sb.cons | apply Sb.app))), ?_⟩
        refine xm_one 13 (m' := 16383) rfl (by kernel_rfl) rfl (by kernel_rfl) (ef_appendS [_, _, _] L lj (news := [.int .u32 (vl ((bs.drop (12 + 4 * j)).take 4))]) rfl rfl hOj rfl (Rs.fresh (List.Mem.head _)) rfl rfl (by decide) (by omega) (by omega) fun q' k' l' hO' hck => ?_)
        refine ⟨(by first | exact Sb.refl | exact Sb.nil | (repeat (first | exact Sb.nil | exact Sb.refl | exact Sb.app0 | apply Sb.keep | apply Sb.keepApp | apply Sb.cons | apply Sb.app))), ?_⟩
        refine xm_take 14 (m' := 32767) rfl (by kernel_rfl) (by first | exact Sb.refl | exact Sb.nil | (repeat (first | exact Sb.nil | exact Sb.refl | exact Sb.app0 | apply Sb.keep | apply Sb.keepApp | apply Sb.cons | apply Sb.app))) (rd_fieldAddr rfl) rfl (by kernel_rfl) ?_
        refine xm_one 15 (m' := 65535) rfl (by kernel_rfl) rfl (by kernel_rfl) (ef_store1 [_] _ rfl rfl (by first | rfl | assumption) rfl rfl rfl ?_)
        refine ⟨(by first | exact Sb.refl | exact Sb.nil | (repeat (first | exact Sb.nil | exact Sb.refl | exact Sb.app0 | apply Sb.keep | apply Sb.keepApp | apply Sb.cons | apply Sb.app))), ?_⟩
        refine xm_done (by kernel_rfl) ?_
        refine xq_block ?_
        refine xq_seq ?_
        refine xc_region ?_
        refine xo_rd (rd_move rfl) rfl ?_
        refine xo_rd (rd_addn rfl rfl (by omega) (by omega)) rfl ?_
        refine xo_rd (rd_assign rfl) rfl ?_
        refine xo_nil ?_
        rotate_left
        refine xc_exit ?_
        refine xq_then_exit ?_
        refine xq_then_exit ?_
        refine xq_block_hit ?_
        rotate_left
      iterate 3
        · refine xq_tail (xq_roundI (⟨j + 1, .slice q' (j + 1) k', l'⟩ : PrS) ⟨by dsimp only; omega, ?_⟩ (by dsimp only; omega) rfl (by repeat (first | exact keep_nil | refine keep_cons rfl ?_)))
          dsimp only
          rw [chunks_snoc, List.drop_drop, ints_snoc]
          exact hO'
      exact xq_joined (⟨j, vj, lj⟩ : PrS) ⟨by dsimp only; omega, hOj⟩ rfl (by repeat (first | exact keep_nil | refine keep_cons rfl ?_))
    · rintro ⟨j, vj, lj⟩ ⟨hj, hOj⟩
      dsimp only at hj hOj ⊢
      obtain ⟨a, ha⟩ : ∃ a : Nat, a = 12 + 4 * mn := ⟨_, rfl⟩
      have hdd : (bs.drop 12).drop (4 * mn) = bs.drop a := by rw [ha]; exact List.drop_drop ..
      rw [show (12 + 4 * (mn : Int)) = (a : Int) from by omega]
      have ham : a ≤ m := by omega
      have hres : ∀ x, (match parseE f0 (bs.drop a) with
        | none => (10, Pk.zero)
        | some (hx, pf, ex, r) => match parseP f0 r with
          | none => (21, Pk.zero)
          | some (pl, pd) => (0, ⟨decide (128 ≤ f1), f1 % 128, vl ((bs.drop 2).take 2), vl ((bs.drop 4).take 4), vl ((bs.drop 8).take 4), chunks j (bs.drop 12), hx, pf, ex, pl, pd⟩)) = x → parseL bs = x := fun x h => by
        rw [← h]; unfold parseL; rw [if_neg (by omega), hg0, hg1, if_neg (by omega), hmn2, if_neg hpe, hdd, hj]
        rcases parseE f0 (bs.drop a) with _ | ⟨hx, pf, ex, r⟩
        · rfl
        · dsimp only
          cases parseP f0 r <;> rfl
      clear hps
      refine xc_join (ι := ErS) (fun s => parseE f0 (bs.drop a) = some (s.hx, s.pf, s.ex, bs.drop s.t) ∧ s.hx = decide (f0 / 16 % 2 = 1) ∧ s.t ≤ m ∧ SlO 1 5 s.v s.ex.length (ints .u8 s.ex) s.l) (fun s => (r5, .cells #[.bool (decide (128 ≤ f1)), .int .u8 (f1 % 128), .int .u16 (vl ((bs.drop 2).take 2)), .int .u32 (vl ((bs.drop 4).take 4)), .int .u32 (vl ((bs.drop 8).take 4)), vj, .bool (decide (f0 / 16 % 2 = 1)), .int .u16 s.pf, s.v, .slice none 0 0, .int .u8 0] 29 (0, 0)) :: (r2, .cells #[.bool false, .int .u8 0, .int .u16 0, .int .u32 0, .int .u32 0, .slice none 0 0, .bool false, .int .u16 0, .slice none 0 0, .slice none 0 0, .int .u8 0] 29 (0, 0)) :: (lj ++ (s.l ++ L))) (fun s => [(0, .slice (some ⟨b, o, none⟩) m c), (2, .pointer (some ⟨r2, 0, none⟩)), (5, .pointer (some ⟨r5, 0, none⟩)), (6, .int .i64 s.t)]) ?_ ?_
      · skip
        have hv3 := vl_u2 ((bs.drop (a + 2)).take 2) (By.take (By.drop hb _) 2) (by rw [List.length_take]; omega)
        have hv1 := vl_u2 ((bs.drop a).take 2) (By.take (By.drop hb _) 2) (by rw [List.length_take]; omega)
        obtain ⟨nn, hnn⟩ : ∃ nn : Nat, vl ((bs.drop (a + 2)).take 2) = nn := ⟨(vl ((bs.drop (a + 2)).take 2)).toNat, by omega⟩
        rw [hnn] at hv3
        focus
          refine xc_seq ?_
          refine xc_region ?_
          refine xo_rd (rd_fieldAddr rfl) rfl ?_
          refine xo_rd (rd_load1 rfl (Cl.o0 rfl)) rfl ?_
          refine xo_nil ?_
          refine xq_seq ?_
          refine xc_dec rfl (fun hw1 => ?_) (fun hw1 => ?_)
          refine xc_seq ?_
          refine xc_seq ?_
          refine xc_region ?_
          refine xo_rd (rd_move rfl) rfl ?_
          refine xo_rd (rd_len rfl) rfl ?_
          refine xo_rd (rd_move rfl) rfl ?_
          refine xo_rd (rd_addn rfl rfl (by omega) (by omega)) rfl ?_
          refine xo_rd (rd_lss rfl rfl) rfl ?_
          refine xo_rd (rd_move rfl) rfl ?_
          refine xo_dec 87 rfl (fun hw2 => ?_) (fun hw2 => ?_)
          refine xo_gskip rfl rfl rfl rfl ?_
          refine xo_gskip rfl rfl rfl rfl ?_
          refine xo_gskip rfl rfl rfl rfl ?_
          refine xo_gskip rfl rfl rfl rfl ?_
          refine xo_gskip rfl rfl rfl rfl ?_
          refine xo_gskip rfl rfl rfl rfl ?_
          refine xo_gskip rfl rfl rfl rfl ?_
          refine xo_gskip rfl rfl rfl rfl ?_
          refine xo_gskip rfl rfl rfl rfl ?_
          refine xo_gskip rfl rfl rfl rfl ?_
          refine xo_gskip rfl rfl rfl rfl ?_
          refine xo_gskip rfl rfl rfl rfl ?_
          refine xo_gskip rfl rfl rfl rfl ?_
          refine xo_gskip rfl rfl rfl rfl ?_
          refine xo_gskip rfl rfl rfl rfl ?_
          refine xo_rd (rd_pickt rfl rfl) rfl ?_
          refine xo_nil ?_
          refine xq_seq ?_
          refine xc_condt rfl ?_
          refine xc_seq ?_
          refine xc_region ?_
          refine xo_rd (rd_build rfl rfl rfl) rfl ?_
          refine xo_ef rfl (ef_storeB [_] _ rfl rfl (by first | rfl | assumption) rfl rfl rfl ?_)
          refine xo_rd (rd_assign rfl) rfl ?_
          refine xo_nil ?_
          refine xq_seq ?_
          refine xc_ret ?_
          refine xq_then_ret ?_
          refine xq_then_ret ?_
          rotate_left
          refine xo_grd rfl rfl (rd_move rfl) rfl ?_
          refine xo_grd rfl rfl (rd_len rfl) rfl ?_
          refine xo_grd rfl rfl (rd_move rfl) rfl ?_
          refine xo_grd rfl rfl (rd_addn rfl rfl (by omega) (by omega)) rfl ?_
          refine xo_grd rfl rfl (rd_move rfl) rfl ?_
          refine xo_grd rfl rfl (rd_move rfl) rfl ?_
          refine xo_grd rfl rfl (rd_addn rfl rfl (by omega) (by omega)) rfl ?_
          refine xo_grd rfl rfl (rd_move rfl) rfl ?_
          refine xo_grd rfl rfl (rd_addn rfl rfl (by omega) (by omega)) rfl ?_
          refine xo_grd rfl rfl (rd_slice rfl rfl rfl (by omega) (by omega) (by omega) (by omega)) rfl ?_
          refine xo_gef rfl rfl rfl (ef_call rfl (XF.mono (xf_value2 _ _ _ ((bs.drop (a + 2)).take 2) hnn (by rw [List.length_take, List.length_drop]; omega) (hr.subI _ (a + 2) 2 (by omega) (by intro z hz; simp [hz])) (By.take (By.drop hb _) 2) (by omega)) ?_))
          rintro v L' ⟨rfl, rfl⟩
          refine xo_grd rfl rfl (rd_convn rfl (by omega) (by omega)) rfl ?_
          refine xo_grd rfl rfl (rd_muln rfl rfl (by omega) (by omega)) rfl ?_
          refine xo_grd rfl rfl (rd_addn rfl rfl (by omega) (by omega)) rfl ?_
          refine xo_grd rfl rfl (rd_lss rfl rfl) rfl ?_
          refine xo_rd (rd_pickf rfl rfl) rfl ?_
          refine xo_nil ?_
          refine xq_seq ?_
          refine xc_dec rfl (fun hw3 => ?_) (fun hw3 => ?_)
          refine xc_seq ?_
          refine xc_region ?_
          refine xo_rd (rd_build rfl rfl rfl) rfl ?_
          refine xo_ef rfl (ef_storeB [_] _ rfl rfl (by first | rfl | assumption) rfl rfl rfl ?_)
          refine xo_rd (rd_assign rfl) rfl ?_
          refine xo_nil ?_
          refine xq_seq ?_
          refine xc_ret ?_
          refine xq_then_ret ?_
          refine xq_then_ret ?_
          rotate_left
          refine xc_skip ?_
          refine xq_seq ?_
          rotate_left
          refine xc_skip ?_
          rotate_left
        · rw [hres _ (by rw [parseE_no1 (by assumption) (by omega)])]
          exact xq_retB2 (L' := L) (.inl rfl) Try.results9 rfl rfl Kn.o1 rfl ((List.sublist_append_right lj L).trans ((List.sublist_cons_self _ _).trans (List.sublist_cons_self _ _))) ⟨_, _, _, [], [], [], rfl, PkM.zero, rfl⟩
        · rw [hres _ (by rw [parseE_no2 (by assumption) (by omega) hnn])]
          exact xq_retB2 (L' := L) (.inl rfl) Try.results9 rfl rfl Kn.o1 rfl ((List.sublist_append_right lj L).trans ((List.sublist_cons_self _ _).trans (List.sublist_cons_self _ _))) ⟨_, _, _, [], [], [], rfl, PkM.zero, rfl⟩
        · skip
          have hcon : (12 + 4 * (mn : Int)) = (a : Int) := by omega
          focus
            refine xc_seq ?_
            refine xc_region ?_
            refine xo_rd (rd_move rfl) rfl ?_
            refine xo_rd (rd_addn rfl rfl (by omega) (by omega)) rfl ?_
            refine xo_rd (rd_move rfl) rfl ?_
            refine xo_rd (rd_move rfl) rfl ?_
            refine xo_rd (rd_addn rfl rfl (by omega) (by omega)) rfl ?_
            refine xo_rd (rd_move rfl) rfl ?_
            refine xo_rd (rd_addn rfl rfl (by omega) (by omega)) rfl ?_
            refine xo_rd (rd_slice rfl rfl rfl (by omega) (by omega) (by omega) (by omega)) rfl ?_
            refine xo_ef rfl (ef_call rfl (XF.mono (xf_value2 _ _ _ ((bs.drop (a + 2)).take 2) hnn (by rw [List.length_take, List.length_drop]; omega) (hr.subI _ (a + 2) 2 (by omega) (by intro z hz; simp [hz])) (By.take (By.drop hb _) 2) (by omega)) ?_))
            rintro v L' ⟨rfl, rfl⟩
            refine xo_rd (rd_convn rfl (by omega) (by omega)) rfl ?_
            refine xo_rd (rd_muln rfl rfl (by omega) (by omega)) rfl ?_
            refine xo_rd (rd_addn rfl rfl (by omega) (by omega)) rfl ?_
            refine xo_rd (rd_assign rfl) rfl ?_
            refine xo_nil ?_
            refine xq_seq ?_
            refine xc_seq ?_
            refine xc_region ?_
            refine xo_rd (rd_move rfl) rfl ?_
            refine xo_rd (rd_move rfl) rfl ?_
            refine xo_rd (rd_move rfl) rfl ?_
            refine xo_rd (rd_addn rfl rfl (by omega) (by omega)) rfl ?_
            refine xo_rd (rd_slice rfl rfl rfl (by omega) (by omega) (by omega) (by omega)) rfl ?_
            refine xo_ef rfl (ef_call rfl (XF.mono (xf_value _ _ _ ((bs.drop a).take 2) (by rw [List.length_take, List.length_drop]; omega) (hr.subI _ a 2 (by omega) (by intro z hz; simp [hz])) (By.take (By.drop hb _) 2) (by omega)) ?_))
            rintro v L' ⟨rfl, rfl⟩
            refine xo_rd (rd_convn rfl (by omega) (by omega)) rfl ?_
            refine xo_rd (rd_fieldAddr rfl) rfl ?_
            refine xo_ef rfl (ef_store1 [] _ rfl rfl (by first | rfl | assumption) rfl rfl rfl ?_)
            refine xo_nil ?_
            refine xq_seq ?_
            refine xc_seq ?_
            refine xc_drawM [0, 1, 0, 0, 8, 0, 52, 66, 255, 511] [0, 1, 0, 0, 8, 0, 52, 66, 255, 511] [] (by kernel_rfl) (by kernel_rfl) (by kernel_rfl) ?_
            refine xm_take 0 (m' := 1) rfl (by kernel_rfl) (by first | exact Sb.refl | exact Sb.nil | (repeat (first | exact Sb.nil | exact Sb.refl | exact Sb.app0 | apply Sb.keep | apply Sb.keepApp | apply Sb.cons | apply Sb.app))) (rd_fieldAddr rfl) rfl (by kernel_rfl) ?_
            refine xm_take 2 (m' := 5) rfl (by kernel_rfl) (by first | exact Sb.refl | exact Sb.nil | (repeat (first | exact Sb.nil | exact Sb.refl | exact Sb.app0 | apply Sb.keep | apply Sb.keepApp | apply Sb.cons | apply Sb.app))) (rd_move rfl) rfl (by kernel_rfl) ?_
            refine xm_take 3 (m' := 13) rfl (by kernel_rfl) (by first | exact Sb.refl | exact Sb.nil | (repeat (first | exact Sb.nil | exact Sb.refl | exact Sb.app0 | apply Sb.keep | apply Sb.keepApp | apply Sb.cons | apply Sb.app))) (rd_move rfl) rfl (by kernel_rfl) ?_
            refine xm_take 4 (m' := 29) rfl (by kernel_rfl) (by first | exact Sb.refl | exact Sb.nil | (repeat (first | exact Sb.nil | exact Sb.refl | exact Sb.app0 | apply Sb.keep | apply Sb.keepApp | apply Sb.cons | apply Sb.app))) (rd_addn rfl rfl (by omega) (by omega)) rfl (by kernel_rfl) ?_
            refine xm_take 5 (m' := 61) rfl (by kernel_rfl) (by first | exact Sb.refl | exact Sb.nil | (repeat (first | exact Sb.nil | exact Sb.refl | exact Sb.app0 | apply Sb.keep | apply Sb.keepApp | apply Sb.cons | apply Sb.app))) (rd_move rfl) rfl (by kernel_rfl) ?_
            refine xm_take 6 (m' := 125) rfl (by kernel_rfl) (by first | exact Sb.refl | exact Sb.nil | (repeat (first | exact Sb.nil | exact Sb.refl | exact Sb.app0 | apply Sb.keep | apply Sb.keepApp | apply Sb.cons | apply Sb.app))) (rd_slLH rfl rfl rfl (by omega) (by omega) (by omega)) rfl (by kernel_rfl) ?_
            refine xm_one 1 (m' := 127) rfl (by kernel_rfl) rfl (by kernel_rfl) (ef_rd (rd_load1 rfl (Cl.o0 rfl)) ?_)
            refine ⟨(by first | exact Sb.refl | exact Sb.nil | (repeat (first | exact Sb.nil | exact Sb.refl | exact Sb.app0 | apply Sb.keep | apply Sb.keepApp | apply Sb.cons | apply Sb.app))), ?_⟩
            refine xm_one 7 (m' := 255) rfl (by kernel_rfl) rfl (by kernel_rfl) (ef_appendS [_, _] (lj ++ L) [] (news := ints .u8 ((bs.drop (a + 4)).take (4 * nn))) rfl rfl SlO.nil rfl (hr.slpI c _ (a + 4) (4 * nn) (by omega) (by omega) (by intro z hz; simp [hz])) (by rw [ints_len, List.length_take, List.length_drop]; omega) (ints_one _ _) (by decide) (by omega) (by omega) fun q' k' l' hO' hck => ?_)
            refine ⟨(by first | exact Sb.refl | exact Sb.nil | (repeat (first | exact Sb.nil | exact Sb.refl | exact Sb.app0 | apply Sb.keep | apply Sb.keepApp | apply Sb.cons | apply Sb.app))), ?_⟩
            refine xm_take 8 (m' := 511) rfl (by kernel_rfl) (by first | exact Sb.refl | exact Sb.nil | (repeat (first | exact Sb.nil | exact Sb.refl | exact Sb.app0 | apply Sb.keep | apply Sb.keepApp | apply Sb.cons | apply Sb.app))) (rd_fieldAddr rfl) rfl (by kernel_rfl) ?_
            refine xm_one 9 (m' := 1023) rfl (by kernel_rfl) rfl (by kernel_rfl) (ef_store1 [] _ rfl rfl (by first | rfl | assumption) rfl rfl rfl ?_)
            refine ⟨(by first | exact Sb.refl | exact Sb.nil | (repeat (first | exact Sb.nil | exact Sb.refl | exact Sb.app0 | apply Sb.keep | apply Sb.keepApp | apply Sb.cons | apply Sb.app))), ?_⟩
            refine xm_done (by kernel_rfl) ?_
            refine xq_seq ?_
            refine xc_region ?_
            refine xo_rd (rd_move rfl) rfl ?_
            refine xo_rd (rd_assign rfl) rfl ?_
            refine xo_nil ?_
          have hex : ((bs.drop (a + 4)).take (4 * nn)).length = (0 + (((a : Int) + 4 + 4 * (nn : Int)).toNat - ((a : Int) + 4).toNat)) := by rw [List.length_take, List.length_drop]; omega
          rw [List.nil_append] at hO'
          refine xq_perm (L' := (r5, .cells #[.bool (decide (128 ≤ f1)), .int .u8 (f1 % 128), .int .u16 (vl ((bs.drop 2).take 2)), .int .u32 (vl ((bs.drop 4).take 4)), .int .u32 (vl ((bs.drop 8).take 4)), vj, .bool (decide (f0 / 16 % 2 = 1)), .int .u16 (vl ((bs.drop a).take 2)), .slice q' (0 + (((a : Int) + 4 + 4 * (nn : Int)).toNat - ((a : Int) + 4).toNat)) k', .slice none 0 0, .int .u8 0] 29 (0, 0)) :: (r2, .cells #[.bool false, .int .u8 0, .int .u16 0, .int .u32 0, .int .u32 0, .slice none 0 0, .bool false, .int .u16 0, .slice none 0 0, .slice none 0 0, .int .u8 0] 29 (0, 0)) :: (lj ++ (l' ++ L))) ?_ ?_
          · refine .cons _ (.cons _ ?_)
            exact (by classical exact List.perm_iff_count.2 fun a => by simp only [List.append_eq, List.count_append, List.count_cons, List.count_nil, List.cons_append, List.nil_append, List.flatMap_append, List.flatMap_cons, List.flatMap_nil, List.append_nil]; omega)
          · refine xq_joined (⟨true, vl ((bs.drop a).take 2), (bs.drop (a + 4)).take (4 * nn), a + 4 + 4 * nn, .slice q' (0 + (((a : Int) + 4 + 4 * (nn : Int)).toNat - ((a : Int) + 4).toNat)) k', l'⟩ : ErS) ⟨parseE_at (by assumption) (by omega) hnn, (decide_eq_true (by assumption)).symm, by dsimp only; omega, by dsimp only; rw [hex]; exact hO'⟩ rfl (by repeat (first | exact keep_nil | refine keep_cons rfl ?_))
        · exact xq_joined (⟨decide (f0 / 16 % 2 = 1), 0, [], a, .slice none 0 0, []⟩ : ErS) ⟨by unfold parseE; rw [if_neg (by assumption), decide_eq_false (by assumption)], rfl, ham, SlO.nil⟩ rfl (by repeat (first | exact keep_nil | refine keep_cons rfl ?_))
      · rintro ⟨hx, pf, ex, t, ve, le⟩ ⟨hE, hhx, htm, hOe⟩
        dsimp only at hE hhx htm hOe ⊢
        have hbad : parseP f0 (bs.drop t) = none → parseL bs = (21, .zero) := fun h => hres _ (by rw [hE]; dsimp only; rw [h])
        have hrl : (bs.drop t).length = m - t := by rw [List.length_drop]; omega
        focus
          refine xc_seq ?_
          refine xc_region ?_
          refine xo_rd (rd_move rfl) rfl ?_
          refine xo_rd (rd_len rfl) rfl ?_
          refine xo_rd (rd_assign rfl) rfl ?_
          refine xo_nil ?_
          refine xq_seq ?_
        refine xc_join (ι := Int × Nat) (fun s => parseP f0 (bs.drop t) = some ((bs.drop t).take (s.2 - t), s.1) ∧ t ≤ s.2 ∧ s.2 ≤ m) (fun s => (r5, .cells #[.bool (decide (128 ≤ f1)), .int .u8 (f1 % 128), .int .u16 (vl ((bs.drop 2).take 2)), .int .u32 (vl ((bs.drop 4).take 4)), .int .u32 (vl ((bs.drop 8).take 4)), vj, .bool (decide (f0 / 16 % 2 = 1)), .int .u16 pf, ve, .slice none 0 0, .int .u8 s.1] 29 (0, 0)) :: (r2, .cells #[.bool false, .int .u8 0, .int .u16 0, .int .u32 0, .int .u32 0, .slice none 0 0, .bool false, .int .u16 0, .slice none 0 0, .slice none 0 0, .int .u8 0] 29 (0, 0)) :: (lj ++ (le ++ L))) (fun s => [(0, .slice (some ⟨b, o, none⟩) m c), (2, .pointer (some ⟨r2, 0, none⟩)), (5, .pointer (some ⟨r5, 0, none⟩)), (6, .int .i64 t), (9, .int .i64 s.2)]) ?_ ?_
        · skip
          by_cases ht : t = m
          · focus
              refine xc_seq ?_
              refine xc_region ?_
              refine xo_rd (rd_move rfl) rfl ?_
              refine xo_rd (rd_indexAddr rfl rfl (by omega) (by omega)) rfl ?_
              refine xo_rd (rd_load1 rfl (hc0 _ (by intro z hz; simp [hz]))) rfl ?_
              refine xo_rd (rd_quon rfl rfl (by omega) (by omega) (by omega) (by omega)) rfl ?_
              refine xo_rd (rd_remn rfl rfl (by omega) (by omega)) rfl ?_
              refine xo_rd (rd_eql rfl rfl) rfl ?_
              refine xo_nil ?_
              refine xq_seq ?_
              refine xc_dec rfl (fun hw1 => ?_) (fun hw1 => ?_)
              refine xc_seq ?_
              refine xc_seq ?_
              refine xc_region ?_
              refine xo_rd (rd_move rfl) rfl ?_
              refine xo_rd (rd_move rfl) rfl ?_
              refine xo_rd (rd_eql rfl rfl) rfl ?_
              refine xo_rd (rd_move rfl) rfl ?_
              refine xo_dec 146 rfl (fun hw2 => ?_) (fun hw2 => (by exfalso; omega))
              refine xo_gskip rfl rfl rfl rfl ?_
              refine xo_gskip rfl rfl rfl rfl ?_
              refine xo_gskip rfl rfl rfl rfl ?_
              refine xo_gskip rfl rfl rfl rfl ?_
              refine xo_gskip rfl rfl rfl rfl ?_
              refine xo_gskip rfl rfl rfl rfl ?_
              refine xo_rd (rd_pickt rfl rfl) rfl ?_
              refine xo_rd (rd_move rfl) rfl ?_
              refine xo_gskip rfl rfl rfl rfl ?_
              refine xo_gskip rfl rfl rfl rfl ?_
              refine xo_gskip rfl rfl rfl rfl ?_
              refine xo_gskip rfl rfl rfl rfl ?_
              refine xo_gskip rfl rfl rfl rfl ?_
              refine xo_gskip rfl rfl rfl rfl ?_
              refine xo_gskip rfl rfl rfl rfl ?_
              refine xo_gskip rfl rfl rfl rfl ?_
              refine xo_gskip rfl rfl rfl rfl ?_
              refine xo_gskip rfl rfl rfl rfl ?_
              refine xo_rd (rd_pickt rfl rfl) rfl ?_
              refine xo_nil ?_
              refine xq_seq ?_
              refine xc_condt rfl ?_
              refine xc_seq ?_
              refine xc_region ?_
              refine xo_rd (rd_build rfl rfl rfl) rfl ?_
              refine xo_ef rfl (ef_storeB [_] _ rfl rfl (by first | rfl | assumption) rfl rfl rfl ?_)
              refine xo_rd (rd_assign rfl) rfl ?_
              refine xo_nil ?_
              refine xq_seq ?_
              refine xc_ret ?_
              refine xq_then_ret ?_
              refine xq_then_ret ?_
              rotate_left
              refine xc_skip ?_
              rotate_left
            · rw [hbad (by unfold parseP; rw [if_pos (by assumption), if_pos (.inl (by omega))])]
              exact xq_retB2 (L' := L) (.inl rfl) Try.results9 rfl rfl Kn.o1 rfl ((List.sublist_append_right le L).trans ((List.sublist_append_right lj _).trans ((List.sublist_cons_self _ _).trans (List.sublist_cons_self _ _)))) ⟨_, _, _, [], [], [], rfl, PkM.zero, rfl⟩
            · exact xq_joined ((0, m) : Int × Nat) ⟨by unfold parseP; rw [if_neg (by assumption), List.take_of_length_le (by omega)], htm, Nat.le_refl _⟩ rfl (by repeat (first | exact keep_nil | refine keep_cons rfl ?_))
          · have hzg : (bs.drop t).getD ((bs.drop t).length - 1) 0 = bs[m - 1]'(by omega) := by
              rw [getD_get (by omega)]
              simp only [List.getElem_drop, hrl]
              congr 1; omega
            have hzb := hb (bs[m - 1]'(by omega)) (List.getElem_mem _)
            have hcz := fun L' h => hcell (m - 1) (by omega) L' h
            unfold By at hzb
            generalize bs[m - 1]'(by omega) = z at hzg hzb hcz
            have hcz' : ∀ L', (∀ y, y ∈ L → y ∈ L') → Cl W L' b (o + ((m : Int) - 1).toNat * 1) (.int .u8 z) := fun L' hL' => by
              rw [show ((m : Int) - 1).toNat = m - 1 from by omega]
              exact hcz L' hL'
            focus
              refine xc_seq ?_
              refine xc_region ?_
              refine xo_rd (rd_move rfl) rfl ?_
              refine xo_rd (rd_indexAddr rfl rfl (by omega) (by omega)) rfl ?_
              refine xo_rd (rd_load1 rfl (hc0 _ (by intro z hz; simp [hz]))) rfl ?_
              refine xo_rd (rd_quon rfl rfl (by omega) (by omega) (by omega) (by omega)) rfl ?_
              refine xo_rd (rd_remn rfl rfl (by omega) (by omega)) rfl ?_
              refine xo_rd (rd_eql rfl rfl) rfl ?_
              refine xo_nil ?_
              refine xq_seq ?_
              refine xc_dec rfl (fun hz1 => ?_) (fun hz1 => ?_)
              refine xc_seq ?_
              refine xc_seq ?_
              refine xc_region ?_
              refine xo_rd (rd_move rfl) rfl ?_
              refine xo_rd (rd_move rfl) rfl ?_
              refine xo_rd (rd_eql rfl rfl) rfl ?_
              refine xo_rd (rd_move rfl) rfl ?_
              refine xo_dec 146 rfl (fun hz2 => (by exfalso; omega)) (fun hz2 => ?_)
              refine xo_grd rfl rfl (rd_move rfl) rfl ?_
              refine xo_grd rfl rfl (rd_move rfl) rfl ?_
              refine xo_grd rfl rfl (rd_subn rfl rfl (by omega) (by omega)) rfl ?_
              refine xo_grd rfl rfl (rd_indexAddr rfl rfl (by omega) (by omega)) rfl ?_
              refine xo_grd rfl rfl (rd_load1 rfl (hcz' _ (by intro z hz; simp [hz]))) rfl ?_
              refine xo_grd rfl rfl (rd_eql rfl rfl) rfl ?_
              refine xo_rd (rd_pickf rfl rfl) rfl ?_
              refine xo_rd (rd_move rfl) rfl ?_
              refine xo_dec 154 rfl (fun hz3 => ?_) (fun hz3 => ?_)
              refine xo_gskip rfl rfl rfl rfl ?_
              refine xo_gskip rfl rfl rfl rfl ?_
              refine xo_gskip rfl rfl rfl rfl ?_
              refine xo_gskip rfl rfl rfl rfl ?_
              refine xo_gskip rfl rfl rfl rfl ?_
              refine xo_gskip rfl rfl rfl rfl ?_
              refine xo_gskip rfl rfl rfl rfl ?_
              refine xo_gskip rfl rfl rfl rfl ?_
              refine xo_gskip rfl rfl rfl rfl ?_
              refine xo_gskip rfl rfl rfl rfl ?_
              refine xo_rd (rd_pickt rfl rfl) rfl ?_
              refine xo_nil ?_
              refine xq_seq ?_
              refine xc_condt rfl ?_
              refine xc_seq ?_
              refine xc_region ?_
              refine xo_rd (rd_build rfl rfl rfl) rfl ?_
              refine xo_ef rfl (ef_storeB [_] _ rfl rfl (by first | rfl | assumption) rfl rfl rfl ?_)
              refine xo_rd (rd_assign rfl) rfl ?_
              refine xo_nil ?_
              refine xq_seq ?_
              refine xc_ret ?_
              refine xq_then_ret ?_
              refine xq_then_ret ?_
              rotate_left
              refine xo_grd rfl rfl (rd_move rfl) rfl ?_
              refine xo_grd rfl rfl (rd_move rfl) rfl ?_
              refine xo_grd rfl rfl (rd_subn rfl rfl (by omega) (by omega)) rfl ?_
              refine xo_grd rfl rfl (rd_indexAddr rfl rfl (by omega) (by omega)) rfl ?_
              refine xo_grd rfl rfl (rd_load1 rfl (hcz' _ (by intro z hz; simp [hz]))) rfl ?_
              refine xo_grd rfl rfl (rd_convn rfl (by omega) (by omega)) rfl ?_
              refine xo_grd rfl rfl (rd_move rfl) rfl ?_
              refine xo_grd rfl rfl (rd_move rfl) rfl ?_
              refine xo_grd rfl rfl (rd_subn rfl rfl (by omega) (by omega)) rfl ?_
              refine xo_grd rfl rfl (rd_gtr rfl rfl) rfl ?_
              refine xo_rd (rd_pickf rfl rfl) rfl ?_
              refine xo_nil ?_
              refine xq_seq ?_
              refine xc_dec rfl (fun hz4 => ?_) (fun hz4 => ?_)
              refine xc_seq ?_
              refine xc_region ?_
              refine xo_rd (rd_build rfl rfl rfl) rfl ?_
              refine xo_ef rfl (ef_storeB [_] _ rfl rfl (by first | rfl | assumption) rfl rfl rfl ?_)
              refine xo_rd (rd_assign rfl) rfl ?_
              refine xo_nil ?_
              refine xq_seq ?_
              refine xc_ret ?_
              refine xq_then_ret ?_
              refine xq_then_ret ?_
              rotate_left
              refine xc_skip ?_
              refine xq_seq ?_
              refine xc_seq ?_
              refine xc_region ?_
              refine xo_rd (rd_move rfl) rfl ?_
              refine xo_rd (rd_move rfl) rfl ?_
              refine xo_rd (rd_subn rfl rfl (by omega) (by omega)) rfl ?_
              refine xo_rd (rd_indexAddr rfl rfl (by omega) (by omega)) rfl ?_
              refine xo_rd (rd_load1 rfl (hcz' _ (by intro z hz; simp [hz]))) rfl ?_
              refine xo_rd (rd_fieldAddr rfl) rfl ?_
              refine xo_ef rfl (ef_store1 [] _ rfl rfl (by first | rfl | assumption) rfl rfl rfl ?_)
              refine xo_nil ?_
              refine xq_seq ?_
              refine xc_region ?_
              refine xo_rd (rd_move rfl) rfl ?_
              refine xo_rd (rd_fieldAddr rfl) rfl ?_
              refine xo_rd (rd_load1 rfl (Cl.o0 rfl)) rfl ?_
              refine xo_rd (rd_convn rfl (by omega) (by omega)) rfl ?_
              refine xo_rd (rd_subn rfl rfl (by omega) (by omega)) rfl ?_
              refine xo_rd (rd_assign rfl) rfl ?_
              refine xo_nil ?_
              rotate_left
              refine xc_skip ?_
              rotate_left
            · rw [hbad (by unfold parseP; rw [if_pos (by assumption), if_pos (.inr (.inl (by rw [hzg]; assumption)))])]
              exact xq_retB2 (L' := L) (.inl rfl) Try.results9 rfl rfl Kn.o1 rfl ((List.sublist_append_right le L).trans ((List.sublist_append_right lj _).trans ((List.sublist_cons_self _ _).trans (List.sublist_cons_self _ _)))) ⟨_, _, _, [], [], [], rfl, PkM.zero, rfl⟩
            · rw [hbad (by unfold parseP; rw [if_pos (by assumption), if_pos (.inr (.inr (by rw [hzg, hrl]; omega)))])]
              exact xq_retB2 (L' := L) (.inl rfl) Try.results9 rfl rfl Kn.o1 rfl ((List.sublist_append_right le L).trans ((List.sublist_append_right lj _).trans ((List.sublist_cons_self _ _).trans (List.sublist_cons_self _ _)))) ⟨_, _, _, [], [], [], rfl, PkM.zero, rfl⟩
            · obtain ⟨k, hk⟩ : ∃ k : Nat, ((m : Int) - z) = k := ⟨((m : Int) - z).toNat, by omega⟩
              rw [hk]
              exact xq_joined ((z, k) : Int × Nat) ⟨by unfold parseP; rw [if_pos (by assumption), if_neg (by rw [hzg, hrl]; omega), hzg, hrl, show (((m - t : Nat) : Int) - z).toNat = k - t from by omega], by dsimp only; omega, by dsimp only; omega⟩ rfl (by repeat (first | exact keep_nil | refine keep_cons rfl ?_))
            · exact xq_joined ((0, m) : Int × Nat) ⟨by unfold parseP; rw [if_neg (by assumption), List.take_of_length_le (by omega)], htm, Nat.le_refl _⟩ rfl (by repeat (first | exact keep_nil | refine keep_cons rfl ?_))
        · rintro ⟨pd, e⟩ ⟨hP, hte, hem⟩
          dsimp only at hP hte hem ⊢
          obtain ⟨qj, kj, rfl, hOj, _⟩ := hOj.opn
          obtain ⟨qe, ke, rfl, hOe, _⟩ := hOe.opn
          focus
            refine xc_seq ?_
            refine xc_drawM [0, 1, 0, 0, 0, 28, 34, 127, 255] [0, 1, 0, 0, 0, 28, 34, 127, 255] [] (by kernel_rfl) (by kernel_rfl) (by kernel_rfl) ?_
            refine xm_take 0 (m' := 1) rfl (by kernel_rfl) (by first | exact Sb.refl | exact Sb.nil | (repeat (first | exact Sb.nil | exact Sb.refl | exact Sb.app0 | apply Sb.keep | apply Sb.keepApp | apply Sb.cons | apply Sb.app))) (rd_fieldAddr rfl) rfl (by kernel_rfl) ?_
            refine xm_take 2 (m' := 5) rfl (by kernel_rfl) (by first | exact Sb.refl | exact Sb.nil | (repeat (first | exact Sb.nil | exact Sb.refl | exact Sb.app0 | apply Sb.keep | apply Sb.keepApp | apply Sb.cons | apply Sb.app))) (rd_move rfl) rfl (by kernel_rfl) ?_
            refine xm_take 3 (m' := 13) rfl (by kernel_rfl) (by first | exact Sb.refl | exact Sb.nil | (repeat (first | exact Sb.nil | exact Sb.refl | exact Sb.app0 | apply Sb.keep | apply Sb.keepApp | apply Sb.cons | apply Sb.app))) (rd_move rfl) rfl (by kernel_rfl) ?_
            refine xm_take 4 (m' := 29) rfl (by kernel_rfl) (by first | exact Sb.refl | exact Sb.nil | (repeat (first | exact Sb.nil | exact Sb.refl | exact Sb.app0 | apply Sb.keep | apply Sb.keepApp | apply Sb.cons | apply Sb.app))) (rd_move rfl) rfl (by kernel_rfl) ?_
            refine xm_take 5 (m' := 61) rfl (by kernel_rfl) (by first | exact Sb.refl | exact Sb.nil | (repeat (first | exact Sb.nil | exact Sb.refl | exact Sb.app0 | apply Sb.keep | apply Sb.keepApp | apply Sb.cons | apply Sb.app))) (rd_slLH rfl rfl rfl (by omega) (by omega) (by omega)) rfl (by kernel_rfl) ?_
            refine xm_one 1 (m' := 63) rfl (by kernel_rfl) rfl (by kernel_rfl) (ef_rd (rd_load1 rfl (Cl.o0 rfl)) ?_)
            refine ⟨(by first | exact Sb.refl | exact Sb.nil | (repeat (first | exact Sb.nil | exact Sb.refl | exact Sb.app0 | apply Sb.keep | apply Sb.keepApp | apply Sb.cons | apply Sb.app))), ?_⟩
            refine xm_one 6 (m' := 127) rfl (by kernel_rfl) rfl (by kernel_rfl) (ef_appendS [_, _] (lj ++ (le ++ L)) [] (news := ints .u8 ((bs.drop t).take (e - t))) rfl rfl SlO.nil rfl (hr.slpI c _ t (e - t) (by omega) (by omega) (by intro z hz; simp [hz])) (by rw [ints_len, List.length_take, List.length_drop]; omega) (ints_one _ _) (by decide) (by omega) (by omega) fun q3 k3 l3 hO3 hck => ?_)
            refine ⟨(by first | exact Sb.refl | exact Sb.nil | (repeat (first | exact Sb.nil | exact Sb.refl | exact Sb.app0 | apply Sb.keep | apply Sb.keepApp | apply Sb.cons | apply Sb.app))), ?_⟩
            refine xm_take 7 (m' := 255) rfl (by kernel_rfl) (by first | exact Sb.refl | exact Sb.nil | (repeat (first | exact Sb.nil | exact Sb.refl | exact Sb.app0 | apply Sb.keep | apply Sb.keepApp | apply Sb.cons | apply Sb.app))) (rd_fieldAddr rfl) rfl (by kernel_rfl) ?_
            refine xm_one 8 (m' := 511) rfl (by kernel_rfl) rfl (by kernel_rfl) (ef_store1 [] _ rfl rfl (by first | rfl | assumption) rfl rfl rfl ?_)
            refine ⟨(by first | exact Sb.refl | exact Sb.nil | (repeat (first | exact Sb.nil | exact Sb.refl | exact Sb.app0 | apply Sb.keep | apply Sb.keepApp | apply Sb.cons | apply Sb.app))), ?_⟩
            refine xm_done (by kernel_rfl) ?_
            refine xq_seq ?_
            refine xc_seq ?_
            refine xc_region ?_
            refine xo_rd (rd_loadB (vs := [.bool (decide (128 ≤ f1)), .int .u8 (f1 % 128), .int .u16 (vl ((bs.drop 2).take 2)), .int .u32 (vl ((bs.drop 4).take 4)), .int .u32 (vl ((bs.drop 8).take 4)), .slice qj j kj, .bool (decide (f0 / 16 % 2 = 1)), .int .u16 pf, .slice qe ex.length ke, .slice q3 (0 + ((e : Int).toNat - (t : Int).toNat)) k3, .int .u8 pd]) rfl Kn.o0 rfl) rfl ?_
            refine xo_ef rfl (ef_storeB [_] _ (vs := [.bool (decide (128 ≤ f1)), .int .u8 (f1 % 128), .int .u16 (vl ((bs.drop 2).take 2)), .int .u32 (vl ((bs.drop 4).take 4)), .int .u32 (vl ((bs.drop 8).take 4)), .slice qj j kj, .bool (decide (f0 / 16 % 2 = 1)), .int .u16 pf, .slice qe ex.length ke, .slice q3 (0 + ((e : Int).toNat - (t : Int).toNat)) k3, .int .u8 pd]) rfl rfl rfl rfl rfl rfl ?_)
            refine xo_rd (rd_assign rfl) rfl ?_
            refine xo_nil ?_
            refine xq_seq ?_
            refine xc_ret ?_
          have hpl : ((bs.drop t).take (e - t)).length = (0 + ((e : Int).toNat - (t : Int).toNat)) := by rw [List.length_take, List.length_drop]; omega
          rw [List.nil_append] at hO3
          have hfin : parseL bs = (0, ⟨decide (128 ≤ f1), f1 % 128, vl ((bs.drop 2).take 2), vl ((bs.drop 4).take 4), vl ((bs.drop 8).take 4), chunks j (bs.drop 12), hx, pf, ex, (bs.drop t).take (e - t), pd⟩) := hres _ (by rw [hE]; dsimp only; rw [hP])
          rw [hfin]
          subst hhx
          refine xq_perm (L' := (r5, .cells ([.bool (decide (128 ≤ f1)), .int .u8 (f1 % 128), .int .u16 (vl ((bs.drop 2).take 2)), .int .u32 (vl ((bs.drop 4).take 4)), .int .u32 (vl ((bs.drop 8).take 4)), .slice qj j kj, .bool (decide (f0 / 16 % 2 = 1)), .int .u16 pf, .slice qe ex.length ke, .slice q3 (0 + ((e : Int).toNat - (t : Int).toNat)) k3, .int .u8 pd] : List Value).toArray 29 (0, 0)) :: (r2, .cells ([.bool (decide (128 ≤ f1)), .int .u8 (f1 % 128), .int .u16 (vl ((bs.drop 2).take 2)), .int .u32 (vl ((bs.drop 4).take 4)), .int .u32 (vl ((bs.drop 8).take 4)), .slice qj j kj, .bool (decide (f0 / 16 % 2 = 1)), .int .u16 pf, .slice qe ex.length ke, .slice q3 (0 + ((e : Int).toNat - (t : Int).toNat)) k3, .int .u8 pd] : List Value).toArray 29 (0, 0)) :: (lj ++ (le ++ (l3 ++ L)))) ?_ ?_
          · refine .cons _ (.cons _ ?_)
            exact (by classical exact List.perm_iff_count.2 fun a => by simp only [List.append_eq, List.count_append, List.count_cons, List.count_nil, List.cons_append, List.nil_append, List.flatMap_append, List.flatMap_cons, List.flatMap_nil, List.append_nil]; omega)
          · exact xq_retB2 (.inl rfl) Try.results9 rfl rfl Kn.o1 rfl ((List.sublist_cons_self _ _).trans (List.sublist_cons_self _ _)) ⟨_, _, _, lj, le, l3, rfl, ⟨by dsimp only; rw [chunks_len]; exact hOj, hOe, by dsimp only; rw [hpl]; exact hO3⟩, rfl⟩
end Go.Proofs.Ytpcmnbagalhjiaa.X
