/-
  What the statements share, and the library's search, by walks of my own.
-/
import Derived.Test.YtmjklmjdmocaiaaA1
namespace Go.Proofs.Ytmjklmjdmocaiaa.X
open Go Go.RowKit
set_option linter.unusedVariables false
/-- slices.Index: the first place of a number. -/
theorem xf_index {W : World} {L : List Blk} (p : Option Addr) (m c : Nat) (ns : List Int) (x : Int) (hx : ns.length = m) (hr : Rs W L p (ints .u16 ns)) (hm : m ≤ 1000000000) : XF Try.prog W 26 #[.slice p m c, .int .u16 x] L (fun v L' => v = .int .i64 (ixOf ns x) ∧ L' = L) := by
  refine xf_enter (args := [_, _]) Try.func26 rfl Try.ntmps26 rfl ?_
  focus
    refine xc_seq ?_
    refine xc_region ?_
    refine xo_rd (rd_assign rfl) rfl ?_
    refine xo_nil ?_
    refine xq_seq ?_
    refine xc_seq ?_
    refine xc_seq ?_
    refine xc_region ?_
    refine xo_rd (rd_move rfl) rfl ?_
    refine xo_rd (rd_len rfl) rfl ?_
    refine xo_rd (rd_move rfl) rfl ?_
    refine xo_nil ?_
    refine xq_seq ?_
    refine xc_block ?_
  refine xc_loopI (ι := Nat) (fun k => k ≤ m ∧ ∀ i, (hi : i < k) → (h2 : i < ns.length) → ns[i] ≠ x) (fun k => m - k) (fun _ => L) (fun k => [(0, .slice p m c), (1, .int .u16 x), (7, .int .i64 m), (8, .int .i64 k)]) 0 ⟨Nat.zero_le _, fun i hi => by omega⟩ rfl (by repeat (first | exact keep_nil | refine keep_cons rfl ?_)) ?_
  rintro k ⟨hk, hno⟩
  focus
    refine xc_seq ?_
    refine xc_region ?_
    refine xo_rd (rd_lss rfl rfl) rfl ?_
    refine xo_nil ?_
    refine xq_seq ?_
    refine xc_seq ?_
    refine xc_dec rfl (fun hk1 => ?_) (fun hk1 => ?_)
    refine xc_skip ?_
    refine xq_seq ?_
    refine xc_seq ?_
    refine xc_block ?_
    refine xc_seq ?_
    refine xc_region ?_
    refine xo_rd (rd_move rfl) rfl ?_
    refine xo_rd (rd_assign rfl) rfl ?_
    refine xo_nil ?_
    refine xq_seq ?_
    refine xc_seq ?_
    refine xc_region ?_
    refine xo_rd (rd_move rfl) rfl ?_
    refine xo_rd (rd_move rfl) rfl ?_
    refine xo_rd (rd_move rfl) rfl ?_
    rotate_left
    refine xc_exit ?_
    refine xq_then_exit ?_
    refine xq_then_exit ?_
    refine xq_block_hit ?_
    refine xq_seq ?_
    refine xc_seq ?_
    refine xc_region ?_
    refine xo_rd (rd_assign rfl) rfl ?_
    refine xo_nil ?_
    refine xq_seq ?_
    refine xc_ret ?_
    rotate_left
  · obtain ⟨b, o, hp, hc⟩ := hr.int (i := k) (by omega)
    subst hp
    focus
      refine xo_rd (rd_indexAddr rfl rfl (by omega) (by omega)) rfl ?_
      refine xo_rd (rd_load1 rfl hc) rfl ?_
      refine xo_rd (rd_eql rfl rfl) rfl ?_
      refine xo_nil ?_
      refine xq_seq ?_
      refine xc_dec rfl (fun hq1 => ?_) (fun hq1 => ?_)
      refine xc_seq ?_
      refine xc_region ?_
      refine xo_rd (rd_move rfl) rfl ?_
      refine xo_rd (rd_assign rfl) rfl ?_
      refine xo_nil ?_
      refine xq_seq ?_
      refine xc_ret ?_
      refine xq_block_ret ?_
      refine xq_then_ret ?_
      refine xq_then_ret ?_
      refine xq_block_ret ?_
      refine xq_then_ret ?_
      rotate_left
      refine xc_skip ?_
      refine xq_block ?_
      refine xq_seq ?_
      refine xc_region ?_
      refine xo_rd (rd_addn rfl rfl (by omega) (by omega)) rfl ?_
      refine xo_rd (rd_move rfl) rfl ?_
      refine xo_nil ?_
      rotate_left
    · refine xq_ret1 (.inl rfl) Try.results26 rfl ⟨?_, rfl⟩
      rw [ixOf_some (k := k) (by omega) hq1.symm (fun i hi => hno i hi (by omega))]
    · refine xq_roundI (k + 1) ⟨by omega, fun i hi h2 => ?_⟩ (by omega) rfl (by repeat (first | exact keep_nil | refine keep_cons rfl ?_))
      by_cases he : i = k
      · subst he; exact fun e => hq1 e.symm
      · exact hno i (by omega) h2
  · refine xq_ret1 (.inl rfl) Try.results26 rfl ⟨?_, rfl⟩
    rw [ixOf_none (fun i hi => hno i (by omega) hi)]
/-- easelkit's SameBytes (and its like): are two rows the same? -/
theorem xf_same {W : World} {L : List Blk} (p q : Option Addr) (m m' c c' : Nat) (xs ys : List Int) (hx : xs.length = m) (hy : ys.length = m') (hr : Rs W L p (ints .u8 xs)) (hs : Rs W L q (ints .u8 ys)) (hm : m ≤ 1000000000) : XF Try.prog W 14 #[.slice p m c, .slice q m' c'] L (fun v L' => v = .bool (decide (xs = ys)) ∧ L' = L) := by
  refine xf_enter (args := [_, _]) Try.func14 rfl Try.ntmps14 rfl ?_
  focus
    refine xc_seq ?_
    refine xc_region ?_
    refine xo_rd (rd_assign rfl) rfl ?_
    refine xo_nil ?_
    refine xq_seq ?_
    refine xc_seq ?_
    refine xc_seq ?_
    refine xc_region ?_
    refine xo_rd (rd_move rfl) rfl ?_
    refine xo_rd (rd_len rfl) rfl ?_
    refine xo_rd (rd_move rfl) rfl ?_
    refine xo_rd (rd_len rfl) rfl ?_
    refine xo_rd (rd_neq rfl rfl) rfl ?_
    refine xo_nil ?_
    refine xq_seq ?_
    refine xc_ndec rfl (fun h1 => ?_) (fun h1 => ?_)
    refine xc_seq ?_
    refine xc_region ?_
    refine xo_rd (rd_assign rfl) rfl ?_
    refine xo_nil ?_
    refine xq_seq ?_
    refine xc_ret ?_
    refine xq_then_ret ?_
    rotate_left
    refine xc_skip ?_
    refine xq_seq ?_
    refine xc_seq ?_
    refine xc_seq ?_
    refine xc_region ?_
    refine xo_rd (rd_assign rfl) rfl ?_
    refine xo_nil ?_
    refine xq_seq ?_
    refine xc_block ?_
    rotate_left
  · refine xq_ret1 (.inl rfl) Try.results14 rfl ⟨?_, rfl⟩
    rw [decide_eq_false (fun e => by subst e; omega)]
  · have hmm : m' = m := by omega
    subst hmm
    refine xc_loopI (ι := Nat) (fun k => k ≤ m' ∧ xs.take k = ys.take k) (fun k => m' - k) (fun _ => L) (fun k => [(0, .slice p m' c), (1, .slice q m' c'), (5, .int .i64 k)]) 0 ⟨Nat.zero_le _, by simp⟩ rfl (by repeat (first | exact keep_nil | refine keep_cons rfl ?_)) ?_
    rintro k ⟨hk, he⟩
    focus
      refine xc_seq ?_
      refine xc_seq ?_
      refine xc_region ?_
      refine xo_rd (rd_move rfl) rfl ?_
      refine xo_rd (rd_move rfl) rfl ?_
      refine xo_rd (rd_len rfl) rfl ?_
      refine xo_rd (rd_lss rfl rfl) rfl ?_
      refine xo_nil ?_
      refine xq_seq ?_
      refine xc_dec rfl (fun hk1 => ?_) (fun hk1 => ?_)
      refine xc_skip ?_
      refine xq_seq ?_
      refine xc_seq ?_
      refine xc_block ?_
      refine xc_seq ?_
      refine xc_drawML [0, 0, 3, 4, 0, 0, 48, 64, 136] [0, 0, 3, 4, 0, 0, 48, 64, 136] (by kernel_rfl) (by kernel_rfl) (by kernel_rfl) ?_
      refine xm_take 0 (m' := 1) rfl (by kernel_rfl) (by first | exact Sb.refl | exact Sb.nil | (repeat (first | exact Sb.nil | exact Sb.refl | exact Sb.app0 | apply Sb.keep | apply Sb.keepApp | apply Sb.cons | apply Sb.app))) (rd_move rfl) rfl (by kernel_rfl) ?_
      refine xm_take 1 (m' := 3) rfl (by kernel_rfl) (by first | exact Sb.refl | exact Sb.nil | (repeat (first | exact Sb.nil | exact Sb.refl | exact Sb.app0 | apply Sb.keep | apply Sb.keepApp | apply Sb.cons | apply Sb.app))) (rd_move rfl) rfl (by kernel_rfl) ?_
      refine xm_take 4 (m' := 19) rfl (by kernel_rfl) (by first | exact Sb.refl | exact Sb.nil | (repeat (first | exact Sb.nil | exact Sb.refl | exact Sb.app0 | apply Sb.keep | apply Sb.keepApp | apply Sb.cons | apply Sb.app))) (rd_move rfl) rfl (by kernel_rfl) ?_
      refine xm_take 5 (m' := 51) rfl (by kernel_rfl) (by first | exact Sb.refl | exact Sb.nil | (repeat (first | exact Sb.nil | exact Sb.refl | exact Sb.app0 | apply Sb.keep | apply Sb.keepApp | apply Sb.cons | apply Sb.app))) (rd_move rfl) rfl (by kernel_rfl) ?_
      rotate_left
      refine xc_exit ?_
      refine xq_then_exit ?_
      refine xq_then_exit ?_
      refine xq_block_hit ?_
      refine xq_seq ?_
      refine xc_seq ?_
      refine xc_region ?_
      refine xo_rd (rd_assign rfl) rfl ?_
      refine xo_nil ?_
      refine xq_seq ?_
      refine xc_ret ?_
      rotate_left
    · obtain ⟨b, o, hp, hc⟩ := hr.int (i := k) (by omega)
      obtain ⟨b', o', hp', hc'⟩ := hs.int (i := k) (by omega)
      subst hp hp'
      focus
        refine xm_take 2 (m' := 55) rfl (by kernel_rfl) (by first | exact Sb.refl | exact Sb.nil | (repeat (first | exact Sb.nil | exact Sb.refl | exact Sb.app0 | apply Sb.keep | apply Sb.keepApp | apply Sb.cons | apply Sb.app))) (rd_indexAddr rfl rfl (by omega) (by omega)) rfl (by kernel_rfl) ?_
        refine xm_take 3 (m' := 63) rfl (by kernel_rfl) (by first | exact Sb.refl | exact Sb.nil | (repeat (first | exact Sb.nil | exact Sb.refl | exact Sb.app0 | apply Sb.keep | apply Sb.keepApp | apply Sb.cons | apply Sb.app))) (rd_load1 rfl hc) rfl (by kernel_rfl) ?_
        refine xm_take 6 (m' := 127) rfl (by kernel_rfl) (by first | exact Sb.refl | exact Sb.nil | (repeat (first | exact Sb.nil | exact Sb.refl | exact Sb.app0 | apply Sb.keep | apply Sb.keepApp | apply Sb.cons | apply Sb.app))) (rd_indexAddr rfl rfl (by omega) (by omega)) rfl (by kernel_rfl) ?_
        refine xm_take 7 (m' := 255) rfl (by kernel_rfl) (by first | exact Sb.refl | exact Sb.nil | (repeat (first | exact Sb.nil | exact Sb.refl | exact Sb.app0 | apply Sb.keep | apply Sb.keepApp | apply Sb.cons | apply Sb.app))) (rd_load1 rfl hc') rfl (by kernel_rfl) ?_
        refine xm_take 8 (m' := 511) rfl (by kernel_rfl) (by first | exact Sb.refl | exact Sb.nil | (repeat (first | exact Sb.nil | exact Sb.refl | exact Sb.app0 | apply Sb.keep | apply Sb.keepApp | apply Sb.cons | apply Sb.app))) (rd_neq rfl rfl) rfl (by kernel_rfl) ?_
        refine xm_done (by kernel_rfl) ?_
        refine xq_seq ?_
        refine xc_ndec rfl (fun hq1 => ?_) (fun hq1 => ?_)
        refine xc_seq ?_
        refine xc_region ?_
        refine xo_rd (rd_assign rfl) rfl ?_
        refine xo_nil ?_
        refine xq_seq ?_
        refine xc_ret ?_
        refine xq_block_ret ?_
        refine xq_then_ret ?_
        refine xq_then_ret ?_
        refine xq_block_ret ?_
        refine xq_then_ret ?_
        rotate_left
        refine xc_skip ?_
        refine xq_block ?_
        refine xq_seq ?_
        refine xc_region ?_
        refine xo_rd (rd_move rfl) rfl ?_
        refine xo_rd (rd_addn rfl rfl (by omega) (by omega)) rfl ?_
        refine xo_rd (rd_assign rfl) rfl ?_
        refine xo_nil ?_
        rotate_left
      · refine xq_ret1 (.inl rfl) Try.results14 rfl ⟨?_, rfl⟩
        rw [decide_eq_false (fun e => by subst e; exact hq1 rfl)]
      · refine xq_roundI (k + 1) ⟨by omega, ?_⟩ (by omega) rfl (by repeat (first | exact keep_nil | refine keep_cons rfl ?_))
        rw [List.take_add_one, List.take_add_one, he, List.getElem?_eq_getElem (by omega), List.getElem?_eq_getElem (by omega), hq1]
    · have hkm : k = m' := by omega
      subst hkm
      refine xq_ret1 (.inl rfl) Try.results14 rfl ⟨?_, rfl⟩
      rw [List.take_of_length_le (by omega), List.take_of_length_le (by omega)] at he
      rw [decide_eq_true he]
theorem xf_sameT {W : World} {L : List Blk} (p q : Option Addr) (m m' c c' : Nat) (xs ys : List Int) (he : xs = ys) (hx : xs.length = m) (hy : ys.length = m') (hr : Rs W L p (ints .u8 xs)) (hs : Rs W L q (ints .u8 ys)) (hm : m ≤ 1000000000) : XF Try.prog W 14 #[.slice p m c, .slice q m' c'] L (fun v L' => v = .bool true ∧ L' = L) :=
  (xf_same p q m m' c c' xs ys hx hy hr hs hm).mono fun v L' h => ⟨h.1.trans (by rw [decide_eq_true he]), h.2⟩
/-- easelkit's Spoil: an owned row is written over. -/
theorem xf_spoil {W : World} {R : List Blk} (v : Value) (m : Nat) (xs : List Value) (l : List Blk) (hO : SlO 1 5 v m xs l) (hm : m ≤ 1000000000) : XF Try.prog W 18 #[v] (l ++ R) (fun u L' => u = .tuple #[] ∧ ∃ xs' l', SlO 1 5 v m xs' l' ∧ L' = l' ++ R) := by
  obtain ⟨p, c, rfl, hO, hc⟩ := hO.opn
  refine xf_enter (args := [_]) Try.func18 rfl Try.ntmps18 rfl ?_
  focus
    refine xc_seq ?_
    refine xc_region ?_
    refine xo_rd (rd_assign rfl) rfl ?_
    refine xo_nil ?_
    refine xq_seq ?_
    refine xc_block ?_
  refine xc_loopI (ι := Nat × List Value × List Blk) (fun s => s.1 ≤ m ∧ SlO 1 5 (.slice p m c) m s.2.1 s.2.2) (fun s => m - s.1) (fun s => s.2.2 ++ R) (fun s => [(0, .slice p m c), (2, .int .i64 s.1)]) (0, xs, l) ⟨Nat.zero_le _, hO⟩ rfl (by repeat (first | exact keep_nil | refine keep_cons rfl ?_)) ?_
  rintro ⟨k, xs, l⟩ ⟨hk, hO⟩
  dsimp only at hk hO ⊢
  focus
    refine xc_seq ?_
    refine xc_seq ?_
    refine xc_region ?_
    refine xo_rd (rd_move rfl) rfl ?_
    refine xo_rd (rd_move rfl) rfl ?_
    refine xo_rd (rd_len rfl) rfl ?_
    refine xo_rd (rd_lss rfl rfl) rfl ?_
    refine xo_nil ?_
    refine xq_seq ?_
    refine xc_dec rfl (fun hk1 => ?_) (fun hk1 => ?_)
    refine xc_skip ?_
    refine xq_seq ?_
    refine xc_seq ?_
    refine xc_block ?_
    refine xc_region ?_
    refine xo_rd (rd_move rfl) rfl ?_
    refine xo_rd (rd_move rfl) rfl ?_
    rotate_left
    refine xc_exit ?_
    refine xq_then_exit ?_
    refine xq_then_exit ?_
    refine xq_block_hit ?_
    rotate_left
  · obtain ⟨b, rest, cap, hv, hcap, hl⟩ := hO.cut (by omega)
    simp only [Value.slice.injEq] at hv
    obtain ⟨hp, _, hcc⟩ := hv
    subst hp
    focus
      refine xo_rd (rd_indexAddr rfl rfl (by omega) (by omega)) rfl ?_
      refine xo_ef rfl (ef_storeEl [] R (i := k) hO (by simp [ev, lk, pt]) rfl (by omega) rfl rfl rfl (by decide) rfl fun l' hO' => ?_)
      refine xo_nil ?_
      refine xq_block ?_
      refine xq_seq ?_
      refine xc_region ?_
      refine xo_rd (rd_move rfl) rfl ?_
      refine xo_rd (rd_addn rfl rfl (by omega) (by omega)) rfl ?_
      refine xo_rd (rd_assign rfl) rfl ?_
      refine xo_nil ?_
    exact xq_roundI (k + 1, _, l') ⟨by dsimp only; omega, hO'⟩ (by dsimp only; omega) rfl (by repeat (first | exact keep_nil | refine keep_cons rfl ?_))
  · exact xq_ret0 (.inr rfl) Try.results18 ⟨rfl, xs, l, hO, rfl⟩
/-- easelkit's Own: a row, in new memory. -/
theorem xf_own {W : World} {L : List Blk} (p : Option Addr) (m c : Nat) (xs : List Value) (hx : xs.length = m * 1) (hr : Rs W L p xs) (h1 : xs.all (·.oneCell') = true) (hm : m ≤ 1000000000) : XF Try.prog W 21 #[.slice p m c] L (fun v L' => ∃ q k l, v = .slice q m k ∧ SlO 1 5 (.slice q m k) m xs l ∧ m ≤ k ∧ L' = l ++ L) := by
  refine xf_enter (args := [_]) Try.func21 rfl Try.ntmps21 rfl ?_
  focus
    refine xc_seq ?_
    refine xc_region ?_
    refine xo_rd (rd_assign rfl) rfl ?_
    refine xo_nil ?_
    refine xq_seq ?_
    refine xc_seq ?_
    refine xc_region ?_
    refine xo_rd (rd_assign rfl) rfl ?_
    refine xo_nil ?_
    refine xq_seq ?_
    refine xc_seq ?_
    refine xc_region ?_
    refine xo_rd (rd_move rfl) rfl ?_
    refine xo_rd (rd_move rfl) rfl ?_
  refine xo_ef rfl (ef_append [] L [] rfl rfl SlO.nil rfl hr hx h1 (by decide) (by omega) (by omega) fun v' l' hO => ?_)
  rw [Nat.zero_add, List.nil_append] at hO
  obtain ⟨q, k, rfl, hO, _⟩ := hO.opn
  focus
    refine xo_rd (rd_assign rfl) rfl ?_
    refine xo_nil ?_
    refine xq_seq ?_
    refine xc_ret ?_
  exact xq_ret1 (.inl rfl) Try.results21 rfl ⟨q, k, l', rfl, hO, hO.cap.2, rfl⟩
/-- easelkit's Pick, of a small n above 0. -/
theorem xf_pick {W : World} {L : List Blk} (x n : Int) (hn : 0 < n) (hn' : n ≤ 1000) : XF Try.prog W 11 #[.int .i64 x, .int .i64 n] L (fun v L' => v = .int .i64 ((x.tmod n + n) % n) ∧ L' = L) := by
  refine xf_enter (args := [_, _]) Try.func11 rfl Try.ntmps11 rfl ?_
  have h1 := Int.tmod_lt_of_pos x hn
  have h2 := Int.lt_tmod_of_pos x hn
  focus
    refine xc_seq ?_
    refine xc_region ?_
    refine xo_rd (rd_assign rfl) rfl ?_
    refine xo_nil ?_
    refine xq_seq ?_
    refine xc_seq ?_
    refine xc_seq ?_
    refine xc_region ?_
    refine xo_rd (rd_move rfl) rfl ?_
    refine xo_rd (rd_leq rfl rfl) rfl ?_
    refine xo_nil ?_
    refine xq_seq ?_
    refine xc_dec rfl (fun h1 => (by exfalso; omega)) (fun h1 => ?_)
    refine xc_skip ?_
    refine xq_seq ?_
    refine xc_seq ?_
    refine xc_region ?_
    refine xo_rd (rd_move rfl) rfl ?_
    refine xo_rd (rd_move rfl) rfl ?_
    refine xo_rd (rd_rem rfl rfl (by omega)) rfl ?_
    refine xo_rd (rd_move rfl) rfl ?_
    refine xo_rd (rd_addn rfl rfl (by omega) (by omega)) rfl ?_
    refine xo_rd (rd_move rfl) rfl ?_
    refine xo_rd (rd_rem rfl rfl (by omega)) rfl ?_
    refine xo_rd (rd_assign rfl) rfl ?_
    refine xo_nil ?_
    refine xq_seq ?_
    refine xc_ret ?_
  refine xq_ret1 (.inl rfl) Try.results11 rfl ⟨?_, rfl⟩
  rw [Int.tmod_eq_emod_of_nonneg (by omega)]
end Go.Proofs.Ytmjklmjdmocaiaa.X
