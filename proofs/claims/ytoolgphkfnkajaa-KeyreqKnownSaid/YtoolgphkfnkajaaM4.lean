/-
  Texts of my own, put together: walks and laws for this seat. No condition.
-/
import Derived.Test.YtoolgphkfnkajaaM2
import Derived.Test.YtoolgphkfnkajaaM3
/-
  Chapter 23: rows of numbers: the first of which something holds; those of which it holds are taken out: walks of my own.
-/
namespace Go.Proofs.Ytoolgphkfnkajaa.X
open Go Go.RowKit
set_option linter.unusedVariables false
set_option linter.unusedSimpArgs false
def ixP (pd : Int → Bool) (l : List Int) : Int := match l.findIdx? pd with
  | some i => i
  | none => -1
theorem ixP_some {pd : Int → Bool} {l : List Int} {k : Nat} (hk : k < l.length) (h : pd l[k] = true) (hn : ∀ (i : Nat) (h : i < l.length), i < k → pd l[i] = false) : ixP pd l = k := by
  have : l.findIdx? pd = some k := List.findIdx?_eq_some_iff_getElem.2 ⟨hk, h, fun j hj => by rw [hn j (by omega) hj]; decide⟩
  unfold ixP; rw [this]
theorem ixP_none {pd : Int → Bool} {l : List Int} (hn : ∀ (i : Nat) (h : i < l.length), pd l[i] = false) : ixP pd l = -1 := by
  have : l.findIdx? pd = none := List.findIdx?_eq_none_iff.2 fun x hx => by
    obtain ⟨i, hi, rfl⟩ := List.mem_iff_getElem.1 hx
    exact hn i hi
  unfold ixP; rw [this]
theorem ixP_neg {pd : Int → Bool} {l : List Int} (h : ixP pd l = -1) : (l.filter fun x => !pd x) = l := by
  unfold ixP at h
  cases hf : l.findIdx? pd with
  | none =>
    rw [List.filter_eq_self]
    exact fun x hx => by rw [List.findIdx?_eq_none_iff.1 hf x hx]; rfl
  | some i => rw [hf] at h; dsimp only at h; omega
theorem ixP_pos {pd : Int → Bool} {ns : List Int} (h : ¬ ixP pd ns = -1) : ∃ k : Nat, ixP pd ns = (k : Int) ∧ ∃ hk : k < ns.length, pd ns[k] = true ∧ ∀ (i : Nat) (h : i < ns.length), i < k → pd ns[i] = false := by
  unfold ixP at h ⊢
  cases hf : ns.findIdx? pd with
  | none => rw [hf] at h; exact absurd rfl h
  | some i =>
    obtain ⟨hi, h1, h2⟩ := List.findIdx?_eq_some_iff_getElem.1 hf
    exact ⟨i, rfl, hi, h1, fun j hj hji => by simpa using h2 j hji⟩
/-- Where DeleteFunc stands. -/
structure DfS where
  i : Nat
  j : Nat
  xs : List Int
  l : List Blk
theorem df_step {pd : Int → Bool} {ns : List Int} {j : Nat} (h : j < ns.length) : (ns.take (j + 1)).filter (fun x => !pd x) = (ns.take j).filter (fun x => !pd x) ++ (if (!pd ns[j]) = true then [ns[j]] else []) := by
  rw [List.take_add_one, List.getElem?_eq_getElem h, List.filter_append]
  congr 1
  simp only [Option.toList_some, List.filter_cons, List.filter_nil]
theorem df_start {pd : Int → Bool} {ns : List Int} {k : Nat} (hk : k < ns.length) (ht : pd ns[k] = true) (hn : ∀ (i : Nat) (h : i < ns.length), i < k → pd ns[i] = false) : (ns.take (k + 1)).filter (fun x => !pd x) = ns.take k := by
  rw [df_step hk, ht, List.filter_eq_self.2]
  · simp
  · intro x hx
    obtain ⟨i, hi, rfl⟩ := List.mem_iff_getElem.1 hx
    rw [List.getElem_take]
    rw [List.length_take] at hi
    rw [hn i (by omega) (by omega)]; rfl
theorem df_set {xs : List Int} {i : Nat} {x : Int} (h : i < xs.length) : (xs.set i x).take (i + 1) = xs.take i ++ [x] := by
  rw [List.take_add_one, List.getElem?_set_self h, List.take_set_of_le (Nat.le_refl _)]; rfl
theorem ints_set {k : IntKind} {xs : List Int} {i : Nat} {x : Int} : ints k (xs.set i x) = (ints k xs).set i (.int k x) := by
  unfold ints; rw [List.map_set]
theorem ixP_eq (l : List Int) (x : Int) : ixP (fun y => y == x) l = ixOf l x := rfl
theorem XF.mapK {P : Program} {W : World} {f : FuncId} {L : List Blk} {args : Array Value} {K K' : Value → List Blk → Prop} (h : XF P W f args L K) (hk : ∀ v L', K v L' → ∃ L'', L'.Perm L'' ∧ K' v L'') : XF P W f args L K' := .mk fun w hw =>
  Calls.mono (h.run w hw) fun e w' ⟨v, he, L', h1, h2⟩ => by
    obtain ⟨L'', hp, h3⟩ := hk _ _ h2
    exact ⟨v, he, L'', h1.perm hp, h3⟩
/-- A call that leaves its blocks, told of all that stand in another order. -/
theorem XF.permK {P : Program} {W : World} {f : FuncId} {L0 L1 : List Blk} {args : Array Value} {φ : Value → Prop} (hp : L0.Perm L1) (h : XF P W f args L1 (fun v L' => φ v ∧ L' = L1)) : XF P W f args L0 (fun v L' => φ v ∧ L' = L0) :=
  (h.perm hp).mapK fun v L' h1 => ⟨L0, h1.2 ▸ hp.symm, h1.1, rfl⟩
/-- slices.Index: the first place of a number. -/
theorem xf_index {W : World} {L : List Blk} (p : Option Addr) (m c : Nat) (ns : List Int) (x : Int) (hx : ns.length = m) (hr : Rs W L p (ints .u32 ns)) (hm : m ≤ 1000000000) : XF Try.prog W 30 #[.slice p m c, .int .u32 x] L (fun v L' => v = .int .i64 (ixOf ns x) ∧ L' = L) := by
  refine xf_enter (args := [_, _]) Try.func30 rfl Try.ntmps30 rfl ?_
  focus
    refine xc_seq ?_
    refine xc_region ?_
    refine xo_rd (rd_assign rfl) rfl ?_
    refine xo_nil ?_
    refine xq_seq ?_
    refine xc_seq ?_
    refine xc_seq ?_
    refine xc_region ?_
    refine xo_rd (rd_move rfl) rfl ?_
    refine xo_rd (rd_len rfl) rfl ?_
    refine xo_rd (rd_move rfl) rfl ?_
    refine xo_nil ?_
    refine xq_seq ?_
    refine xc_block ?_
  refine xc_loopI (ι := Nat) (fun k => k ≤ m ∧ ∀ i, (hi : i < k) → (h2 : i < ns.length) → ns[i] ≠ x) (fun k => m - k) (fun _ => L) (fun k => [(0, .slice p m c), (1, .int .u32 x), (7, .int .i64 m), (8, .int .i64 k)]) 0 ⟨Nat.zero_le _, fun i hi => by omega⟩ rfl (by repeat (first | exact keep_nil | refine keep_cons rfl ?_)) ?_
  rintro k ⟨hk, hno⟩
  focus
    refine xc_seq ?_
    refine xc_region ?_
    refine xo_rd (rd_lss rfl rfl) rfl ?_
    refine xo_nil ?_
    refine xq_seq ?_
    refine xc_seq ?_
    refine xc_dec rfl (fun hk1 => ?_) (fun hk1 => ?_)
    refine xc_skip ?_
    refine xq_seq ?_
    refine xc_seq ?_
    refine xc_block ?_
    refine xc_seq ?_
    refine xc_region ?_
    refine xo_rd (rd_move rfl) rfl ?_
    refine xo_rd (rd_assign rfl) rfl ?_
    refine xo_nil ?_
    refine xq_seq ?_
    refine xc_seq ?_
    refine xc_region ?_
    refine xo_rd (rd_move rfl) rfl ?_
    refine xo_rd (rd_move rfl) rfl ?_
    refine xo_rd (rd_move rfl) rfl ?_
    rotate_left
    refine xc_exit ?_
    refine xq_then_exit ?_
    refine xq_then_exit ?_
    refine xq_block_hit ?_
    refine xq_seq ?_
    refine xc_seq ?_
    refine xc_region ?_
    refine xo_rd (rd_assign rfl) rfl ?_
    refine xo_nil ?_
    refine xq_seq ?_
    refine xc_ret ?_
    rotate_left
  · obtain ⟨b, o, hp, hc⟩ := hr.int (i := k) (by omega)
    subst hp
    focus
      refine xo_rd (rd_indexAddr rfl rfl (by omega) (by omega)) rfl ?_
      refine xo_rd (rd_load1 rfl hc) rfl ?_
      refine xo_rd (rd_eql rfl rfl) rfl ?_
      refine xo_nil ?_
      refine xq_seq ?_
      refine xc_dec rfl (fun hq1 => ?_) (fun hq1 => ?_)
      refine xc_seq ?_
      refine xc_region ?_
      refine xo_rd (rd_move rfl) rfl ?_
      refine xo_rd (rd_assign rfl) rfl ?_
      refine xo_nil ?_
      refine xq_seq ?_
      refine xc_ret ?_
      refine xq_block_ret ?_
      refine xq_then_ret ?_
      refine xq_then_ret ?_
      refine xq_block_ret ?_
      refine xq_then_ret ?_
      rotate_left
      refine xc_skip ?_
      refine xq_block ?_
      refine xq_seq ?_
      refine xc_region ?_
      refine xo_rd (rd_addn rfl rfl (by omega) (by omega)) rfl ?_
      refine xo_rd (rd_move rfl) rfl ?_
      refine xo_nil ?_
      rotate_left
    · refine xq_ret1 (.inl rfl) Try.results30 rfl ⟨?_, rfl⟩
      rw [ixOf_some (k := k) (by omega) hq1.symm (fun i hi => hno i hi (by omega))]
    · refine xq_roundI (k + 1) ⟨by omega, fun i hi h2 => ?_⟩ (by omega) rfl (by repeat (first | exact keep_nil | refine keep_cons rfl ?_))
      by_cases he : i = k
      · subst he; exact fun e => hq1 e.symm
      · exact hno i (by omega) h2
  · refine xq_ret1 (.inl rfl) Try.results30 rfl ⟨?_, rfl⟩
    rw [ixOf_none (fun i hi => hno i (by omega) hi)]
theorem xf_contains {W : World} {L : List Blk} (p : Option Addr) (m c : Nat) (ns : List Int) (x : Int) (hx : ns.length = m) (hr : Rs W L p (ints .u32 ns)) (hm : m ≤ 1000000000) : XF Try.prog W 21 #[.slice p m c, .int .u32 x] L (fun v L' => v = .bool (decide (0 ≤ ixOf ns x)) ∧ L' = L) := by
  refine xf_enter (args := [_, _]) Try.func21 rfl Try.ntmps21 rfl ?_
  focus
    refine xc_seq ?_
    refine xc_region ?_
    refine xo_rd (rd_assign rfl) rfl ?_
    refine xo_nil ?_
    refine xq_seq ?_
    refine xc_seq ?_
    refine xc_region ?_
    refine xo_rd (rd_move rfl) rfl ?_
    refine xo_rd (rd_move rfl) rfl ?_
    refine xo_ef rfl (ef_call rfl (XF.mono (xf_index p m c ns x hx hr hm) ?_))
    rintro v L' ⟨rfl, rfl⟩
    refine xo_rd (rd_geq rfl rfl) rfl ?_
    refine xo_rd (rd_assign rfl) rfl ?_
    refine xo_nil ?_
    refine xq_seq ?_
    refine xc_ret ?_
    exact xq_ret1 (.inl rfl) Try.results21 rfl (⟨rfl, rfl⟩)
/-- easelkit's SameBytes (and its like): are two rows the same? -/
theorem xf_same {W : World} {L : List Blk} (p q : Option Addr) (m m' c c' : Nat) (xs ys : List Int) (hx : xs.length = m) (hy : ys.length = m') (hr : Rs W L p (ints .u32 xs)) (hs : Rs W L q (ints .u32 ys)) (hm : m ≤ 1000000000) : XF Try.prog W 17 #[.slice p m c, .slice q m' c'] L (fun v L' => v = .bool (decide (xs = ys)) ∧ L' = L) := by
  refine xf_enter (args := [_, _]) Try.func17 rfl Try.ntmps17 rfl ?_
  focus
    refine xc_seq ?_
    refine xc_region ?_
    refine xo_rd (rd_assign rfl) rfl ?_
    refine xo_nil ?_
    refine xq_seq ?_
    refine xc_seq ?_
    refine xc_seq ?_
    refine xc_region ?_
    refine xo_rd (rd_move rfl) rfl ?_
    refine xo_rd (rd_len rfl) rfl ?_
    refine xo_rd (rd_move rfl) rfl ?_
    refine xo_rd (rd_len rfl) rfl ?_
    refine xo_rd (rd_neq rfl rfl) rfl ?_
    refine xo_nil ?_
    refine xq_seq ?_
    refine xc_ndec rfl (fun h1 => ?_) (fun h1 => ?_)
    refine xc_seq ?_
    refine xc_region ?_
    refine xo_rd (rd_assign rfl) rfl ?_
    refine xo_nil ?_
    refine xq_seq ?_
    refine xc_ret ?_
    refine xq_then_ret ?_
    rotate_left
    refine xc_skip ?_
    refine xq_seq ?_
    refine xc_seq ?_
    refine xc_seq ?_
    refine xc_region ?_
    refine xo_rd (rd_assign rfl) rfl ?_
    refine xo_nil ?_
    refine xq_seq ?_
    refine xc_block ?_
    rotate_left
  · refine xq_ret1 (.inl rfl) Try.results17 rfl ⟨?_, rfl⟩
    rw [decide_eq_false (fun e => by subst e; omega)]
  · have hmm : m' = m := by omega
    subst hmm
    refine xc_loopI (ι := Nat) (fun k => k ≤ m' ∧ xs.take k = ys.take k) (fun k => m' - k) (fun _ => L) (fun k => [(0, .slice p m' c), (1, .slice q m' c'), (5, .int .i64 k)]) 0 ⟨Nat.zero_le _, by simp⟩ rfl (by repeat (first | exact keep_nil | refine keep_cons rfl ?_)) ?_
    rintro k ⟨hk, he⟩
    focus
      refine xc_seq ?_
      refine xc_seq ?_
      refine xc_region ?_
      refine xo_rd (rd_move rfl) rfl ?_
      refine xo_rd (rd_move rfl) rfl ?_
      refine xo_rd (rd_len rfl) rfl ?_
      refine xo_rd (rd_lss rfl rfl) rfl ?_
      refine xo_nil ?_
      refine xq_seq ?_
      refine xc_dec rfl (fun hk1 => ?_) (fun hk1 => ?_)
      refine xc_skip ?_
      refine xq_seq ?_
      refine xc_seq ?_
      refine xc_block ?_
      refine xc_seq ?_
      refine xc_drawML [0, 0, 3, 4, 0, 0, 48, 64, 136] [0, 0, 3, 4, 0, 0, 48, 64, 136] (by kernel_rfl) (by kernel_rfl) (by kernel_rfl) ?_
      refine xm_take 0 (m' := 1) rfl (by kernel_rfl) Sb.a (rd_move rfl) rfl (by kernel_rfl) ?_
      refine xm_take 1 (m' := 3) rfl (by kernel_rfl) Sb.a (rd_move rfl) rfl (by kernel_rfl) ?_
      refine xm_take 4 (m' := 19) rfl (by kernel_rfl) Sb.a (rd_move rfl) rfl (by kernel_rfl) ?_
      refine xm_take 5 (m' := 51) rfl (by kernel_rfl) Sb.a (rd_move rfl) rfl (by kernel_rfl) ?_
      rotate_left
      refine xc_exit ?_
      refine xq_then_exit ?_
      refine xq_then_exit ?_
      refine xq_block_hit ?_
      refine xq_seq ?_
      refine xc_seq ?_
      refine xc_region ?_
      refine xo_rd (rd_assign rfl) rfl ?_
      refine xo_nil ?_
      refine xq_seq ?_
      refine xc_ret ?_
      rotate_left
    · obtain ⟨b, o, hp, hc⟩ := hr.int (i := k) (by omega)
      obtain ⟨b', o', hp', hc'⟩ := hs.int (i := k) (by omega)
      subst hp hp'
      focus
        refine xm_take 2 (m' := 55) rfl (by kernel_rfl) Sb.a (rd_indexAddr rfl rfl (by omega) (by omega)) rfl (by kernel_rfl) ?_
        refine xm_take 3 (m' := 63) rfl (by kernel_rfl) Sb.a (rd_load1 rfl hc) rfl (by kernel_rfl) ?_
        refine xm_take 6 (m' := 127) rfl (by kernel_rfl) Sb.a (rd_indexAddr rfl rfl (by omega) (by omega)) rfl (by kernel_rfl) ?_
        refine xm_take 7 (m' := 255) rfl (by kernel_rfl) Sb.a (rd_load1 rfl hc') rfl (by kernel_rfl) ?_
        refine xm_take 8 (m' := 511) rfl (by kernel_rfl) Sb.a (rd_neq rfl rfl) rfl (by kernel_rfl) ?_
        refine xm_done (by kernel_rfl) ?_
        refine xq_seq ?_
        refine xc_ndec rfl (fun hq1 => ?_) (fun hq1 => ?_)
        refine xc_seq ?_
        refine xc_region ?_
        refine xo_rd (rd_assign rfl) rfl ?_
        refine xo_nil ?_
        refine xq_seq ?_
        refine xc_ret ?_
        refine xq_block_ret ?_
        refine xq_then_ret ?_
        refine xq_then_ret ?_
        refine xq_block_ret ?_
        refine xq_then_ret ?_
        rotate_left
        refine xc_skip ?_
        refine xq_block ?_
        refine xq_seq ?_
        refine xc_region ?_
        refine xo_rd (rd_move rfl) rfl ?_
        refine xo_rd (rd_addn rfl rfl (by omega) (by omega)) rfl ?_
        refine xo_rd (rd_assign rfl) rfl ?_
        refine xo_nil ?_
        rotate_left
      · refine xq_ret1 (.inl rfl) Try.results17 rfl ⟨?_, rfl⟩
        rw [decide_eq_false (fun e => by subst e; exact hq1 rfl)]
      · refine xq_roundI (k + 1) ⟨by omega, ?_⟩ (by omega) rfl (by repeat (first | exact keep_nil | refine keep_cons rfl ?_))
        rw [List.take_add_one, List.take_add_one, he, List.getElem?_eq_getElem (by omega), List.getElem?_eq_getElem (by omega), hq1]
    · have hkm : k = m' := by omega
      subst hkm
      refine xq_ret1 (.inl rfl) Try.results17 rfl ⟨?_, rfl⟩
      rw [List.take_of_length_le (by omega), List.take_of_length_le (by omega)] at he
      rw [decide_eq_true he]
theorem xf_sameT {W : World} {L : List Blk} (p q : Option Addr) (m m' c c' : Nat) (xs ys : List Int) (he : xs = ys) (hx : xs.length = m) (hy : ys.length = m') (hr : Rs W L p (ints .u32 xs)) (hs : Rs W L q (ints .u32 ys)) (hm : m ≤ 1000000000) : XF Try.prog W 17 #[.slice p m c, .slice q m' c'] L (fun v L' => v = .bool true ∧ L' = L) :=
  (xf_same p q m m' c c' xs ys hx hy hr hs hm).mono fun v L' h => ⟨h.1.trans (by rw [decide_eq_true he]), h.2⟩
/-- easelkit's Pick, of a small n above 0. -/
theorem xf_pick {W : World} {L : List Blk} (x n : Int) (hn : 0 < n) (hn' : n ≤ 1000) : XF Try.prog W 31 #[.int .i64 x, .int .i64 n] L (fun v L' => v = .int .i64 ((x.tmod n + n) % n) ∧ L' = L) := by
  refine xf_enter (args := [_, _]) Try.func31 rfl Try.ntmps31 rfl ?_
  have h1 := Int.tmod_lt_of_pos x hn
  have h2 := Int.lt_tmod_of_pos x hn
  focus
    refine xc_seq ?_
    refine xc_region ?_
    refine xo_rd (rd_assign rfl) rfl ?_
    refine xo_nil ?_
    refine xq_seq ?_
    refine xc_seq ?_
    refine xc_seq ?_
    refine xc_region ?_
    refine xo_rd (rd_move rfl) rfl ?_
    refine xo_rd (rd_leq rfl rfl) rfl ?_
    refine xo_nil ?_
    refine xq_seq ?_
    refine xc_dec rfl (fun h1 => (by exfalso; omega)) (fun h1 => ?_)
    refine xc_skip ?_
    refine xq_seq ?_
    refine xc_seq ?_
    refine xc_region ?_
    refine xo_rd (rd_move rfl) rfl ?_
    refine xo_rd (rd_move rfl) rfl ?_
    refine xo_rd (rd_rem rfl rfl (by omega)) rfl ?_
    refine xo_rd (rd_move rfl) rfl ?_
    refine xo_rd (rd_addn rfl rfl (by omega) (by omega)) rfl ?_
    refine xo_rd (rd_move rfl) rfl ?_
    refine xo_rd (rd_rem rfl rfl (by omega)) rfl ?_
    refine xo_rd (rd_assign rfl) rfl ?_
    refine xo_nil ?_
    refine xq_seq ?_
    refine xc_ret ?_
  refine xq_ret1 (.inl rfl) Try.results31 rfl ⟨?_, rfl⟩
  rw [Int.tmod_eq_emod_of_nonneg (by omega)]
/-- What IndexFunc tells. -/
theorem xf_ixf {W : World} {L : List Blk} (p : Option Addr) (m c : Nat) (ns : List Int) (pd : Int → Bool) (hx : ns.length = m) (hr : Rs W L p (ints .u32 ns)) (hm : m ≤ 1000000000) (q q2 : Nat) (hp : ∀ x, x ∈ ns → XF Try.prog W 29 #[.int .u32 x, .pointer (some ⟨q, 0, none⟩), .pointer (some ⟨q2, 0, none⟩)] L (fun v L' => v = .bool (pd x) ∧ L' = L)) : XF Try.prog W 42 #[.slice p m c, .func (.func 29) #[] #[.pointer (some ⟨q, 0, none⟩), .pointer (some ⟨q2, 0, none⟩)]] L (fun v L' => v = .int .i64 (ixP pd ns) ∧ L' = L) := by
  refine xf_enter (args := [_, _]) Try.func42 rfl Try.ntmps42 rfl ?_
  focus
    refine xc_seq ?_
    refine xc_region ?_
    refine xo_rd (rd_assign rfl) rfl ?_
    refine xo_nil ?_
    refine xq_seq ?_
    refine xc_seq ?_
    refine xc_seq ?_
    refine xc_region ?_
    refine xo_rd (rd_move rfl) rfl ?_
    refine xo_rd (rd_len rfl) rfl ?_
    refine xo_rd (rd_move rfl) rfl ?_
    refine xo_nil ?_
    refine xq_seq ?_
    refine xc_block ?_
  refine xc_loopK (ι := Nat) (fun k => k ≤ m ∧ ∀ (i : Nat) (h : i < ns.length), i < k → pd ns[i] = false) (fun k => m - k) (fun k => [(0, .slice p m c), (1, .func (.func 29) #[] #[.pointer (some ⟨q, 0, none⟩), .pointer (some ⟨q2, 0, none⟩)]), (7, .int .i64 m), (8, .int .i64 k)]) 0 ⟨Nat.zero_le _, fun i h hi => absurd hi (Nat.not_lt_zero _)⟩ (by repeat (first | exact keep_nil | refine keep_cons rfl ?_)) ?_
  rintro k ⟨hk, hno⟩
  by_cases hkm : k < m
  · obtain ⟨b, o, hpb, hc⟩ := hr.int (i := k) (by omega)
    subst hpb
    have hpx := hp ns[k] (List.getElem_mem _)
    obtain ⟨s, hs⟩ : ∃ s, pd ns[k] = s := ⟨_, rfl⟩
    rw [hs] at hpx
    focus
      refine xc_seq ?_
      refine xc_region ?_
      refine xo_rd (rd_lss rfl rfl) rfl ?_
      refine xo_nil ?_
      refine xq_seq ?_
      refine xc_seq ?_
      refine xc_dec rfl (fun hz1 => ?_) (fun hz1 => (by exfalso; omega))
      refine xc_skip ?_
      refine xq_seq ?_
      refine xc_seq ?_
      refine xc_block ?_
      refine xc_seq ?_
      refine xc_region ?_
      refine xo_rd (rd_move rfl) rfl ?_
      refine xo_rd (rd_assign rfl) rfl ?_
      refine xo_nil ?_
      refine xq_seq ?_
      refine xc_seq ?_
      refine xc_region ?_
      refine xo_rd (rd_move rfl) rfl ?_
      refine xo_rd (rd_move rfl) rfl ?_
      refine xo_rd (rd_move rfl) rfl ?_
      refine xo_rd (rd_indexAddr rfl rfl (by omega) (by omega)) rfl ?_
      refine xo_rd (rd_load1 rfl hc) rfl ?_
      refine xo_ef rfl (ef_callk (r := .bool s) (vs := [.int .u32 ns[k]]) (first := []) (cap := [.pointer (some ⟨q, 0, none⟩), .pointer (some ⟨q2, 0, none⟩)]) rfl rfl hpx ?_)
      refine xo_nil ?_
      refine xq_seq ?_
      refine xc_cond rfl (fun hz2 => ?_) (fun hz2 => ?_)
      refine xc_seq ?_
      refine xc_region ?_
      refine xo_rd (rd_move rfl) rfl ?_
      refine xo_rd (rd_assign rfl) rfl ?_
      refine xo_nil ?_
      refine xq_seq ?_
      refine xc_ret ?_
      refine xq_block_ret ?_
      refine xq_then_ret ?_
      refine xq_then_ret ?_
      refine xq_block_ret ?_
      refine xq_then_ret ?_
      rotate_left
      refine xc_skip ?_
      refine xq_block ?_
      refine xq_seq ?_
      refine xc_region ?_
      refine xo_rd (rd_addn rfl rfl (by omega) (by omega)) rfl ?_
      refine xo_rd (rd_move rfl) rfl ?_
      refine xo_nil ?_
      rotate_left
    · refine xq_ret1 (.inl rfl) Try.results42 rfl ⟨?_, rfl⟩
      rw [ixP_some (k := k) (by omega) (hs.trans hz2) (fun i h hi => hno i h hi)]
    · refine xq_roundK rfl (k + 1) ⟨by omega, fun i h hi => ?_⟩ (by omega) (List.Sublist.refl _) (by repeat (first | exact keep_nil | refine keep_cons rfl ?_))
      by_cases he : i = k
      · subst he; exact hs.trans hz2
      · exact hno i h (by omega)
  · skip
    focus
      refine xc_seq ?_
      refine xc_region ?_
      refine xo_rd (rd_lss rfl rfl) rfl ?_
      refine xo_nil ?_
      refine xq_seq ?_
      refine xc_seq ?_
      refine xc_dec rfl (fun h1 => (by exfalso; omega)) (fun h1 => ?_)
      refine xc_exit ?_
      refine xq_then_exit ?_
      refine xq_then_exit ?_
      refine xq_block_hit ?_
      refine xq_seq ?_
      refine xc_seq ?_
      refine xc_region ?_
      refine xo_rd (rd_assign rfl) rfl ?_
      refine xo_nil ?_
      refine xq_seq ?_
      refine xc_ret ?_
    refine xq_ret1 (.inl rfl) Try.results42 rfl ⟨?_, rfl⟩
    rw [ixP_none (fun i h => hno i h (by omega))]
/-- DeleteFunc: what is told is taken out. -/
theorem xf_delf {W : World} {R : List Blk} (p : Option Addr) (m c : Nat) (ns : List Int) (l : List Blk) (hO : SlQ 1 30 (.slice p m c) m (ints .u32 ns) l) (hx : ns.length = m) (pd : Int → Bool) (hm : m ≤ 1000000000) (q q2 : Nat) (hp : ∀ l' x, x ∈ ns → XF Try.prog W 29 #[.int .u32 x, .pointer (some ⟨q, 0, none⟩), .pointer (some ⟨q2, 0, none⟩)] (l' ++ R) (fun v L' => v = .bool (pd x) ∧ L' = l' ++ R)) : XF Try.prog W 28 #[.slice p m c, .func (.func 29) #[] #[.pointer (some ⟨q, 0, none⟩), .pointer (some ⟨q2, 0, none⟩)]] (l ++ R) (fun v L' => ∃ l', v = .slice p (ns.filter fun x => !pd x).length c ∧ SlQ 1 30 (.slice p (ns.filter fun x => !pd x).length c) (ns.filter fun x => !pd x).length (ints .u32 (ns.filter fun x => !pd x)) l' ∧ L' = l' ++ R) := by
  have hmc : m ≤ c := by obtain ⟨_, _, hv, _, h⟩ := hO.opn; simp only [Value.slice.injEq] at hv; omega
  have hix := xf_ixf (W := W) (L := l ++ R) p m c ns pd hx hO.rsl hm q q2 (hp l)
  refine xf_enter (args := [_, _]) Try.func28 rfl Try.ntmps28 rfl ?_
  by_cases hneg : ixP pd ns = -1
  · rw [hneg] at hix
    focus
      refine xc_seq ?_
      refine xc_region ?_
      refine xo_rd (rd_assign rfl) rfl ?_
      refine xo_nil ?_
      refine xq_seq ?_
      refine xc_seq ?_
      refine xc_region ?_
      refine xo_rd (rd_move rfl) rfl ?_
      refine xo_rd (rd_move rfl) rfl ?_
      refine xo_ef rfl (ef_call rfl (XF.mono (hix) ?_))
      rintro v L' ⟨rfl, rfl⟩
      refine xo_rd (rd_assign rfl) rfl ?_
      refine xo_nil ?_
      refine xq_seq ?_
      refine xc_seq ?_
      refine xc_seq ?_
      refine xc_region ?_
      refine xo_rd (rd_move rfl) rfl ?_
      refine xo_rd (rd_eql rfl rfl) rfl ?_
      refine xo_nil ?_
      refine xq_seq ?_
      refine xc_condt rfl ?_
      refine xc_seq ?_
      refine xc_region ?_
      refine xo_rd (rd_move rfl) rfl ?_
      refine xo_rd (rd_assign rfl) rfl ?_
      refine xo_nil ?_
      refine xq_seq ?_
      refine xc_ret ?_
      refine xq_then_ret ?_
    refine xq_ret1 (.inl rfl) Try.results28 rfl ?_
    have hf : (ns.filter fun x => !pd x) = ns := ixP_neg hneg
    rw [hf, hx]
    exact ⟨l, rfl, hO, rfl⟩
  obtain ⟨k0, hk0, hk0m, hkt, hkn⟩ := ixP_pos (pd := pd) (ns := ns) hneg
  rw [hk0] at hix
  focus
    refine xc_seq ?_
    refine xc_region ?_
    refine xo_rd (rd_assign rfl) rfl ?_
    refine xo_nil ?_
    refine xq_seq ?_
    refine xc_seq ?_
    refine xc_region ?_
    refine xo_rd (rd_move rfl) rfl ?_
    refine xo_rd (rd_move rfl) rfl ?_
    refine xo_ef rfl (ef_call rfl (XF.mono (hix) ?_))
    rintro v L' ⟨rfl, rfl⟩
    refine xo_rd (rd_assign rfl) rfl ?_
    refine xo_nil ?_
    refine xq_seq ?_
    refine xc_seq ?_
    refine xc_seq ?_
    refine xc_region ?_
    refine xo_rd (rd_move rfl) rfl ?_
    refine xo_rd (rd_eql rfl rfl) rfl ?_
    refine xo_nil ?_
    refine xq_seq ?_
    refine xc_condf rfl ?_
    refine xc_skip ?_
    refine xq_seq ?_
    refine xc_seq ?_
    refine xc_seq ?_
    refine xc_region ?_
    refine xo_rd (rd_move rfl) rfl ?_
    refine xo_rd (rd_addn rfl rfl (by omega) (by omega)) rfl ?_
    refine xo_rd (rd_assign rfl) rfl ?_
    refine xo_nil ?_
    refine xq_seq ?_
    refine xc_block ?_
  refine xc_loopI (ι := DfS) (fun s => s.j ≤ m ∧ s.i < s.j ∧ s.xs.length = m ∧ s.i = ((ns.take s.j).filter fun x => !pd x).length ∧ s.xs.take s.i = (ns.take s.j).filter (fun x => !pd x) ∧ s.xs.drop s.j = ns.drop s.j ∧ SlQ 1 30 (.slice p m c) m (ints .u32 s.xs) s.l) (fun s => m - s.j) (fun s => s.l ++ R) (fun s => [(0, .slice p m c), (1, .func (.func 29) #[] #[.pointer (some ⟨q, 0, none⟩), .pointer (some ⟨q2, 0, none⟩)]), (5, .int .i64 s.i), (6, .int .i64 s.j)]) ⟨k0, k0 + 1, ns, l⟩ ?_ rfl (by repeat (first | exact keep_nil | refine keep_cons rfl ?_)) ?_
  · have htk : (ns.take (k0 + 1)).filter (fun x => !pd x) = ns.take k0 := df_start (by omega) hkt hkn
    exact ⟨by dsimp only; omega, by dsimp only; omega, hx, by dsimp only; rw [htk, List.length_take]; omega, by dsimp only; rw [htk], rfl, hO⟩
  rintro ⟨i, j, xs, l1⟩ ⟨hj, hij, hxl, hi, htk, hdr, hO1⟩
  dsimp only at hj hij hxl hi htk hdr hO1 ⊢
  by_cases hjm : j < m
  · have hxj : xs[j]'(by omega) = ns[j]'(by omega) := by
      have h := congrArg (fun l => l[0]?) hdr
      simp only [List.getElem?_drop, Nat.add_zero] at h
      rw [List.getElem?_eq_getElem (by omega), List.getElem?_eq_getElem (by omega)] at h
      exact Option.some.inj h
    have hrs : Rs W (l1 ++ R) p (ints .u32 xs) := hO1.rsl
    obtain ⟨b, o, hpb, hc⟩ := hrs.int (i := j) (by omega)
    subst hpb
    have hpx := hp l1 (ns[j]'(by omega)) (List.getElem_mem _)
    rw [← hxj] at hpx
    obtain ⟨s, hs⟩ : ∃ s, pd (xs[j]'(by omega)) = s := ⟨_, rfl⟩
    rw [hs] at hpx
    have hstep := df_step (pd := pd) (ns := ns) (j := j) (by omega)
    rw [← hxj, hs] at hstep
    generalize hxv : xs[j]'(by omega) = xv at *
    focus
      refine xc_seq ?_
      refine xc_seq ?_
      refine xc_region ?_
      refine xo_rd (rd_move rfl) rfl ?_
      refine xo_rd (rd_move rfl) rfl ?_
      refine xo_rd (rd_len rfl) rfl ?_
      refine xo_rd (rd_lss rfl rfl) rfl ?_
      refine xo_nil ?_
      refine xq_seq ?_
      refine xc_dec rfl (fun hz1 => ?_) (fun hz1 => (by exfalso; omega))
      refine xc_skip ?_
      refine xq_seq ?_
      refine xc_seq ?_
      refine xc_block ?_
      refine xc_seq ?_
      refine xc_region ?_
      refine xo_rd (rd_move rfl) rfl ?_
      refine xo_rd (rd_move rfl) rfl ?_
      refine xo_rd (rd_indexAddr rfl rfl (by omega) (by omega)) rfl ?_
      refine xo_rd (rd_load1 rfl hc) rfl ?_
      refine xo_rd (rd_assign rfl) rfl ?_
      refine xo_nil ?_
      refine xq_seq ?_
      refine xc_seq ?_
      refine xc_region ?_
      refine xo_rd (rd_move rfl) rfl ?_
      refine xo_rd (rd_move rfl) rfl ?_
      refine xo_ef rfl (ef_callk (r := .bool s) (vs := [.int .u32 xv]) (first := []) (cap := [.pointer (some ⟨q, 0, none⟩), .pointer (some ⟨q2, 0, none⟩)]) rfl rfl hpx ?_)
      refine xo_rd (rd_not rfl) rfl ?_
      refine xo_nil ?_
      refine xq_seq ?_
      refine xc_cond rfl (fun hz2 => ?_) (fun hz2 => ?_)
      refine xc_seq ?_
      refine xc_region ?_
      refine xo_rd (rd_move rfl) rfl ?_
      refine xo_rd (rd_move rfl) rfl ?_
      refine xo_rd (rd_move rfl) rfl ?_
      refine xo_rd (rd_indexAddr rfl rfl (by omega) (by omega)) rfl ?_
      refine xo_ef rfl (ef_storeQ1 [] R i (v := .int .u32 xv) hO1 rfl (by omega) rfl rfl rfl (by omega) rfl fun l2 hO2 => ?_)
      refine xo_nil ?_
      refine xq_seq ?_
      refine xc_region ?_
      refine xo_rd (rd_move rfl) rfl ?_
      refine xo_rd (rd_addn rfl rfl (by omega) (by omega)) rfl ?_
      refine xo_rd (rd_assign rfl) rfl ?_
      refine xo_nil ?_
      refine xq_block ?_
      refine xq_seq ?_
      refine xc_region ?_
      refine xo_rd (rd_move rfl) rfl ?_
      refine xo_rd (rd_addn rfl rfl (by omega) (by omega)) rfl ?_
      refine xo_rd (rd_assign rfl) rfl ?_
      refine xo_nil ?_
      rotate_left
      refine xc_skip ?_
      refine xq_block ?_
      refine xq_seq ?_
      refine xc_region ?_
      refine xo_rd (rd_move rfl) rfl ?_
      refine xo_rd (rd_addn rfl rfl (by omega) (by omega)) rfl ?_
      refine xo_rd (rd_assign rfl) rfl ?_
      refine xo_nil ?_
      rotate_left
    · have hsf : s = false := by simpa using hz2
      rw [hsf] at hstep
      simp only [Bool.not_false, if_true] at hstep
      refine xq_roundI (⟨i + 1, j + 1, xs.set i xv, l2⟩ : DfS) ⟨by dsimp only; omega, by dsimp only; omega, by dsimp only; rw [List.length_set]; exact hxl, by dsimp only; rw [hstep, List.length_append, ← hi]; rfl, ?_, ?_, ?_⟩ (by dsimp only; omega) rfl (by repeat (first | exact keep_nil | refine keep_cons rfl ?_))
      · dsimp only
        rw [hstep, ← htk, df_set (by omega)]
      · dsimp only
        rw [List.drop_set, if_pos (by omega), ← List.tail_drop, ← List.tail_drop, hdr]
      · dsimp only
        rw [ints_set]; exact hO2
    · have hst : s = true := by simpa using hz2
      rw [hst] at hstep
      simp only [Bool.not_true, Bool.false_eq_true, if_false, List.append_nil] at hstep
      refine xq_roundI (⟨i, j + 1, xs, l1⟩ : DfS) ⟨by dsimp only; omega, by dsimp only; omega, hxl, by dsimp only; rw [hstep]; exact hi, by dsimp only; rw [hstep]; exact htk, ?_, hO1⟩ (by dsimp only; omega) rfl (by repeat (first | exact keep_nil | refine keep_cons rfl ?_))
      dsimp only
      rw [← List.tail_drop, ← List.tail_drop, hdr]
  · have hjm' : j = m := by omega
    subst hjm'
    have htn : ns.take j = ns := List.take_of_length_le (by omega)
    rw [htn] at hi htk
    have hpre := hO1.pre i (by omega)
    obtain ⟨b, o, hpb, _⟩ := (hO1.rsl (W := W) (R := R)) 0 (.int .u32 (xs[0]'(by omega))) (by simp [ints])
    subst hpb
    focus
      refine xc_seq ?_
      refine xc_seq ?_
      refine xc_region ?_
      refine xo_rd (rd_move rfl) rfl ?_
      refine xo_rd (rd_move rfl) rfl ?_
      refine xo_rd (rd_len rfl) rfl ?_
      refine xo_rd (rd_lss rfl rfl) rfl ?_
      refine xo_nil ?_
      refine xq_seq ?_
      refine xc_dec rfl (fun h1 => (by exfalso; omega)) (fun h1 => ?_)
      refine xc_exit ?_
      refine xq_then_exit ?_
      refine xq_then_exit ?_
      refine xq_block_hit ?_
      refine xq_seq ?_
      refine xc_seq ?_
      refine xc_region ?_
      refine xo_rd (rd_move rfl) rfl ?_
      refine xo_rd (rd_move rfl) rfl ?_
      refine xo_rd (rd_cast (v' := .slice (slp (some ⟨b, o, none⟩) c i 1) (j - i) (c - i)) (rd_slLo rfl rfl (by omega) (by omega)) (by rw [Int.toNat_natCast])) rfl ?_
      refine xo_ef rfl (ef_clearQ [] R l1 hpre rfl rfl (by omega) (by omega) (by simp [Value.cells, Value.oneCell']) fun l2 hO2 => ?_)
      refine xo_nil ?_
      refine xq_seq ?_
      refine xc_seq ?_
      refine xc_region ?_
      refine xo_rd (rd_move rfl) rfl ?_
      refine xo_rd (rd_move rfl) rfl ?_
      refine xo_rd (rd_cast (v' := .slice (some ⟨b, o, none⟩) i c) (rd_slHi rfl rfl (by omega) (by omega)) (by rw [Int.toNat_natCast])) rfl ?_
      refine xo_rd (rd_assign rfl) rfl ?_
      refine xo_nil ?_
      refine xq_seq ?_
      refine xc_ret ?_
    refine xq_ret1 (.inl rfl) Try.results28 rfl ⟨l2, by rw [hi], ?_, rfl⟩
    rw [Nat.mul_one] at hO2
    rw [← htk]
    have hlt : (xs.take i).length = i := by rw [List.length_take]; omega
    rw [hlt, ints_take]
    exact hO2
end Go.Proofs.Ytoolgphkfnkajaa.X
/-
  Chapter 23: few numbers sorted in place: walks of my own.
-/
namespace Go.Proofs.Ytoolgphkfnkajaa.X
open Go Go.RowKit
set_option linter.unusedVariables false
set_option linter.unusedSimpArgs false
theorem getD_set {ys : List Int} {i : Nat} {x : Int} {a : Nat} (hi : i < ys.length) : (ys.set i x).getD a 0 = if a = i then x else ys.getD a 0 := by
  rw [List.getD_eq_getElem?_getD, List.getD_eq_getElem?_getD, List.getElem?_set]
  by_cases h : a = i
  · subst h; rw [if_pos rfl, if_pos hi, if_pos rfl]; rfl
  · rw [if_neg (Ne.symm h), if_neg h]
/-- All but what stands at j rises, up to i. -/
def SrtB (ys : List Int) (i j : Nat) : Prop := ∀ a b, a < b → b ≤ i → b ≠ j → ys.getD a 0 ≤ ys.getD b 0
def SrtT (ys : List Int) (i : Nat) : Prop := ∀ a b, a < b → b < i → ys.getD a 0 ≤ ys.getD b 0
theorem SrtB.start {ys : List Int} {i : Nat} (h : SrtT ys i) : SrtB ys i i := fun a b h1 h2 h3 => h a b h1 (by omega)
theorem SrtB.done {ys : List Int} {i j : Nat} (h : SrtB ys i j) (hj : j = 0 ∨ ys.getD (j - 1) 0 ≤ ys.getD j 0) : SrtT ys (i + 1) := fun a b h1 h2 => by
  by_cases hb : b = j
  · subst hb
    rcases hj with hj | hj
    · omega
    · by_cases ha : a = b - 1
      · subst ha; exact hj
      · exact Int.le_trans (h a (b - 1) (by omega) (by omega) (by omega)) hj
  · exact h a b h1 (by omega) hb
theorem SrtB.swap {ys : List Int} {i j : Nat} (h : SrtB ys i j) (h0 : 0 < j) (hji : j ≤ i) (hi : i < ys.length) (hlt : ys.getD j 0 < ys.getD (j - 1) 0) : SrtB ((ys.set j (ys.getD (j - 1) 0)).set (j - 1) (ys.getD j 0)) i (j - 1) := fun a b h1 h2 h3 => by
  have e : ∀ a, ((ys.set j (ys.getD (j - 1) 0)).set (j - 1) (ys.getD j 0)).getD a 0 = if a = j - 1 then ys.getD j 0 else if a = j then ys.getD (j - 1) 0 else ys.getD a 0 := fun a => by
    rw [getD_set (by rw [List.length_set]; omega), getD_set (by omega)]
  rw [e, e, if_neg h3]
  by_cases hb : b = j
  · subst hb
    rw [if_pos rfl]
    by_cases ha : a = b - 1
    · rw [if_pos ha]; omega
    · rw [if_neg ha, if_neg (by omega)]
      exact h a (b - 1) (by omega) (by omega) (by omega)
  · rw [if_neg hb]
    by_cases ha : a = j - 1
    · rw [if_pos ha]
      exact h j b (by omega) h2 hb
    · rw [if_neg ha]
      by_cases ha2 : a = j
      · rw [if_pos ha2]; exact h (j - 1) b (by omega) h2 hb
      · rw [if_neg ha2]; exact h a b h1 h2 hb
theorem swap_perm {ys : List Int} {j : Nat} (h0 : 0 < j) (hj : j < ys.length) : ((ys.set j (ys.getD (j - 1) 0)).set (j - 1) (ys.getD j 0)).Perm ys := by
  rw [List.getD_eq_getElem?_getD, List.getD_eq_getElem?_getD, List.getElem?_eq_getElem hj, List.getElem?_eq_getElem (by omega : j - 1 < ys.length)]
  exact List.set_set_perm hj (by omega)
theorem xf_isNaN {W : World} {L : List Blk} (x : Int) : XF Try.prog W 64 #[.int .u32 x] L (fun v L' => v = .bool false ∧ L' = L) := by
  refine xf_enter (args := [_]) Try.func64 rfl Try.ntmps64 rfl ?_
  focus
    refine xc_seq ?_
    refine xc_region ?_
    refine xo_rd (rd_assign rfl) rfl ?_
    refine xo_nil ?_
    refine xq_seq ?_
    refine xc_seq ?_
    refine xc_region ?_
    refine xo_rd (rd_move rfl) rfl ?_
    refine xo_rd (rd_move rfl) rfl ?_
    refine xo_rd (rd_neq rfl rfl) rfl ?_
    refine xo_rd (rd_assign rfl) rfl ?_
    refine xo_nil ?_
    refine xq_seq ?_
    refine xc_ret ?_
  all_goals exact xq_ret1 (.inl rfl) Try.results64 rfl ⟨by simp, rfl⟩
theorem xf_less {W : World} {L : List Blk} (x y : Int) (b : Bool) (hb : decide (x < y) = b) : XF Try.prog W 54 #[.int .u32 x, .int .u32 y] L (fun v L' => v = .bool b ∧ L' = L) := by
  subst hb
  refine xf_enter (args := [_, _]) Try.func54 rfl Try.ntmps54 rfl ?_
  focus
    refine xc_seq ?_
    refine xc_region ?_
    refine xo_rd (rd_assign rfl) rfl ?_
    refine xo_nil ?_
    refine xq_seq ?_
    refine xc_seq ?_
    refine xc_region ?_
    refine xo_rd (rd_move rfl) rfl ?_
    refine xo_ef rfl (ef_call rfl (XF.mono (xf_isNaN x) ?_))
    rintro v L' ⟨rfl, rfl⟩
    refine xo_rd (rd_move rfl) rfl ?_
    refine xo_gskip rfl rfl rfl rfl ?_
    refine xo_gskip rfl rfl rfl rfl ?_
    refine xo_gskip rfl rfl rfl rfl ?_
    refine xo_rd (rd_pickf rfl rfl) rfl ?_
    refine xo_rd (rd_move rfl) rfl ?_
    refine xo_grd rfl rfl (rd_move rfl) rfl ?_
    refine xo_grd rfl rfl (rd_move rfl) rfl ?_
    refine xo_grd rfl rfl (rd_lss rfl rfl) rfl ?_
    refine xo_rd (rd_pickf rfl rfl) rfl ?_
    refine xo_rd (rd_assign rfl) rfl ?_
    refine xo_nil ?_
    refine xq_seq ?_
    refine xc_ret ?_
  all_goals exact xq_ret1 (.inl rfl) Try.results54 rfl ⟨rfl, rfl⟩
/-- Where the sort stands. -/
structure InS where
  i : Nat
  ys : List Int
  l : List Blk
set_option maxHeartbeats 1600000 in
theorem xf_insertion {W : World} {R : List Blk} (p : Option Addr) (n c : Nat) (xs : List Int) (l : List Blk) (hx : xs.length = n) (hO : SlQ 1 30 (.slice p n c) n (ints .u32 xs) l) (hn : n ≤ 1000000) :
    XF Try.prog W 48 #[.slice p n c, .int .i64 0, .int .i64 n] (l ++ R) (fun v L' => v = .tuple #[] ∧ ∃ ys l', SlQ 1 30 (.slice p n c) n (ints .u32 ys) l' ∧ ys.Perm xs ∧ SrtT ys n ∧ L' = l' ++ R) := by
  refine xf_enter (args := [_, _, _]) Try.func48 rfl Try.ntmps48 rfl ?_
  focus
    refine xc_seq ?_
    refine xc_region ?_
    refine xo_rd (rd_move rfl) rfl ?_
    refine xo_rd (rd_addn rfl rfl (by omega) (by omega)) rfl ?_
    refine xo_rd (rd_assign rfl) rfl ?_
    refine xo_nil ?_
    refine xq_seq ?_
    refine xc_block ?_
  refine xc_loopI (ι := InS) (fun s => 1 ≤ s.i ∧ (s.i ≤ n ∨ s.i = 1) ∧ s.ys.Perm xs ∧ SrtT s.ys s.i ∧ SlQ 1 30 (.slice p n c) n (ints .u32 s.ys) s.l) (fun s => n - s.i) (fun s => s.l ++ R) (fun s => [(0, .slice p n c), (1, .int .i64 0), (2, .int .i64 n), (6, .int .i64 s.i)]) ⟨1, xs, l⟩ ⟨Nat.le_refl _, .inr rfl, List.Perm.refl _, (fun a b h1 h2 => by dsimp only at h2; omega), hO⟩ rfl (by repeat (first | exact keep_nil | refine keep_cons rfl ?_)) ?_
  rintro ⟨i, ys, l1⟩ ⟨hi1, hin1, hpm, hsr, hO1⟩
  dsimp only at hi1 hin1 hpm hsr hO1 ⊢
  have hyl : ys.length = n := by rw [hpm.length_eq, hx]
  by_cases hin : i < n
  case neg =>
    focus
      refine xc_seq ?_
      refine xc_seq ?_
      refine xc_region ?_
      refine xo_rd (rd_move rfl) rfl ?_
      refine xo_rd (rd_move rfl) rfl ?_
      refine xo_rd (rd_lss rfl rfl) rfl ?_
      refine xo_nil ?_
      refine xq_seq ?_
      refine xc_dec rfl (fun h1 => (by exfalso; omega)) (fun h1 => ?_)
      refine xc_exit ?_
      refine xq_then_exit ?_
      refine xq_then_exit ?_
      refine xq_block_hit ?_
    exact xq_ret0 (.inr rfl) Try.results48 ⟨rfl, ys, l1, hO1, hpm, (fun a b h1 h2 => hsr a b h1 (by omega)), rfl⟩
  focus
    refine xc_seq ?_
    refine xc_seq ?_
    refine xc_region ?_
    refine xo_rd (rd_move rfl) rfl ?_
    refine xo_rd (rd_move rfl) rfl ?_
    refine xo_rd (rd_lss rfl rfl) rfl ?_
    refine xo_nil ?_
    refine xq_seq ?_
    refine xc_dec rfl (fun h1 => ?_) (fun h1 => (by exfalso; omega))
    refine xc_skip ?_
    refine xq_seq ?_
    refine xc_seq ?_
    refine xc_block ?_
    refine xc_seq ?_
    refine xc_region ?_
    refine xo_rd (rd_move rfl) rfl ?_
    refine xo_rd (rd_assign rfl) rfl ?_
    refine xo_nil ?_
    refine xq_seq ?_
    refine xc_block ?_
  refine xc_loopI (ι := InS) (fun s => s.i ≤ i ∧ s.ys.Perm xs ∧ SrtB s.ys i s.i ∧ SlQ 1 30 (.slice p n c) n (ints .u32 s.ys) s.l) (fun s => s.i) (fun s => s.l ++ R) (fun s => [(0, .slice p n c), (1, .int .i64 0), (2, .int .i64 n), (6, .int .i64 i), (7, .int .i64 s.i)]) ⟨i, ys, l1⟩ ⟨Nat.le_refl _, hpm, SrtB.start hsr, hO1⟩ rfl (by repeat (first | exact keep_nil | refine keep_cons rfl ?_)) ?_
  clear hpm hsr hO1 hyl
  rintro ⟨j, ys, l1⟩ ⟨hji, hpm, hsr, hO1⟩
  dsimp only at hji hpm hsr hO1 ⊢
  have hyl : ys.length = n := by rw [hpm.length_eq, hx]
  by_cases hj0 : j = 0
  · subst hj0
    focus
      refine xc_seq ?_
      refine xc_seq ?_
      refine xc_drawML [0, 0, 3, 4, 8, 8, 56, 72, 8, 8, 520, 1288, 2056, 4232, 8200] [0, 0, 3, 4, 8, 8, 56, 72, 8, 8, 520, 1288, 2056, 4232, 8200] (by kernel_rfl) (by kernel_rfl) (by kernel_rfl) ?_
      refine xm_take 0 (m' := 1) rfl (by kernel_rfl) Sb.a (rd_move rfl) rfl (by kernel_rfl) ?_
      refine xm_take 1 (m' := 3) rfl (by kernel_rfl) Sb.a (rd_move rfl) rfl (by kernel_rfl) ?_
      refine xm_take 2 (m' := 7) rfl (by kernel_rfl) Sb.a (rd_gtr rfl rfl) rfl (by kernel_rfl) ?_
      refine xm_take 3 (m' := 15) rfl (by kernel_rfl) Sb.a (rd_move rfl) rfl (by kernel_rfl) ?_
      refine xm_gskip 4 (m' := 31) rfl (by kernel_rfl) Sb.a rfl rfl rfl rfl (by kernel_rfl) ?_
      refine xm_gskip 5 (m' := 63) rfl (by kernel_rfl) Sb.a rfl rfl rfl rfl (by kernel_rfl) ?_
      refine xm_gskip 6 (m' := 127) rfl (by kernel_rfl) Sb.a rfl rfl rfl rfl (by kernel_rfl) ?_
      refine xm_gskip 7 (m' := 255) rfl (by kernel_rfl) Sb.a rfl rfl rfl rfl (by kernel_rfl) ?_
      refine xm_gskip 8 (m' := 511) rfl (by kernel_rfl) Sb.a rfl rfl rfl rfl (by kernel_rfl) ?_
      refine xm_gskip 9 (m' := 1023) rfl (by kernel_rfl) Sb.a rfl rfl rfl rfl (by kernel_rfl) ?_
      refine xm_gskip 10 (m' := 2047) rfl (by kernel_rfl) Sb.a rfl rfl rfl rfl (by kernel_rfl) ?_
      refine xm_gskip 11 (m' := 4095) rfl (by kernel_rfl) Sb.a rfl rfl rfl rfl (by kernel_rfl) ?_
      refine xm_gskip 12 (m' := 8191) rfl (by kernel_rfl) Sb.a rfl rfl rfl rfl (by kernel_rfl) ?_
      refine xm_gskip 13 (m' := 16383) rfl (by kernel_rfl) Sb.a rfl rfl rfl rfl (by kernel_rfl) ?_
      refine xm_take 14 (m' := 32767) rfl (by kernel_rfl) Sb.a (rd_pickf rfl rfl) rfl (by kernel_rfl) ?_
      refine xm_done (by kernel_rfl) ?_
      refine xq_seq ?_
      refine xc_condf rfl ?_
      refine xc_exit ?_
      refine xq_then_exit ?_
      refine xq_then_exit ?_
      refine xq_block_hit ?_
      refine xq_block ?_
      refine xq_seq ?_
      refine xc_region ?_
      refine xo_rd (rd_move rfl) rfl ?_
      refine xo_rd (rd_addn rfl rfl (by omega) (by omega)) rfl ?_
      refine xo_rd (rd_assign rfl) rfl ?_
      refine xo_nil ?_
    all_goals exact xq_roundI (⟨i + 1, ys, l1⟩ : InS) ⟨by dsimp only; omega, by dsimp only; omega, hpm, hsr.done (.inl rfl), hO1⟩ (by dsimp only; omega) rfl (by repeat (first | exact keep_nil | refine keep_cons rfl ?_))
  have hrs : Rs W (l1 ++ R) p (ints .u32 ys) := hO1.rsl
  obtain ⟨b, o, hpb, hc⟩ := hrs.int (i := j) (by omega)
  obtain ⟨b', o', hpb', hc'⟩ := hrs.int (i := j - 1) (by omega)
  rw [hpb] at hpb'
  simp only [Option.some.injEq, Addr.mk.injEq, and_true] at hpb'
  obtain ⟨rfl, rfl⟩ := hpb'
  subst hpb
  have e1 : ys[j]'(by omega) = ys.getD j 0 := by rw [List.getD_eq_getElem?_getD, List.getElem?_eq_getElem (by omega)]; rfl
  have e2 : ys[j - 1]'(by omega) = ys.getD (j - 1) 0 := by rw [List.getD_eq_getElem?_getD, List.getElem?_eq_getElem (by omega)]; rfl
  rw [e1] at hc
  rw [e2] at hc'
  have hc2 : Cl W (l1 ++ R) b (o + ((j : Int) - 1).toNat * 1) (.int .u32 (ys.getD (j - 1) 0)) := by
    have : ((j : Int) - 1).toNat = ((j - 1 : Nat) : Int).toNat := by omega
    rw [this]; exact hc'
  by_cases hlt : ys.getD j 0 < ys.getD (j - 1) 0
  · have hsw := hsr.swap (by omega) hji (by omega) hlt
    have hpm2 := (swap_perm (ys := ys) (j := j) (by omega) (by omega)).trans hpm
    generalize hX : ys.getD j 0 = X at *
    generalize hY : ys.getD (j - 1) 0 = Y at *
    focus
      refine xc_seq ?_
      refine xc_seq ?_
      refine xc_drawM [0, 0, 3, 4, 8, 8, 56, 72, 8, 8, 520, 1288, 2056, 4232, 8200] [0, 0, 3, 4, 8, 8, 56, 72, 8, 8, 520, 1288, 2056, 4232, 8200] (l1 ++ R) (by kernel_rfl) (by kernel_rfl) (by kernel_rfl) ?_
      refine xm_take 0 (m' := 1) rfl (by kernel_rfl) Sb.a (rd_move rfl) rfl (by kernel_rfl) ?_
      refine xm_take 1 (m' := 3) rfl (by kernel_rfl) Sb.a (rd_move rfl) rfl (by kernel_rfl) ?_
      refine xm_take 2 (m' := 7) rfl (by kernel_rfl) Sb.a (rd_gtr rfl rfl) rfl (by kernel_rfl) ?_
      refine xm_take 3 (m' := 15) rfl (by kernel_rfl) Sb.a (rd_move rfl) rfl (by kernel_rfl) ?_
      refine xm_dec 19 rfl (fun h1 => ?_) (fun h1 => (by exfalso; omega))
      refine xm_gtake 4 (m' := 31) rfl (by kernel_rfl) Sb.a rfl rfl (rd_move rfl) rfl (by kernel_rfl) ?_
      refine xm_gtake 5 (m' := 63) rfl (by kernel_rfl) Sb.a rfl rfl (rd_move rfl) rfl (by kernel_rfl) ?_
      refine xm_gtake 6 (m' := 127) rfl (by kernel_rfl) Sb.a rfl rfl (rd_indexAddr rfl rfl (by omega) (by omega)) rfl (by kernel_rfl) ?_
      refine xm_gtake 7 (m' := 255) rfl (by kernel_rfl) Sb.a rfl rfl (rd_load1 rfl hc) rfl (by kernel_rfl) ?_
      refine xm_gtake 8 (m' := 511) rfl (by kernel_rfl) Sb.a rfl rfl (rd_move rfl) rfl (by kernel_rfl) ?_
      refine xm_gtake 9 (m' := 1023) rfl (by kernel_rfl) Sb.a rfl rfl (rd_move rfl) rfl (by kernel_rfl) ?_
      refine xm_gtake 10 (m' := 2047) rfl (by kernel_rfl) Sb.a rfl rfl (rd_subn rfl rfl (by omega) (by omega)) rfl (by kernel_rfl) ?_
      refine xm_gtake 11 (m' := 4095) rfl (by kernel_rfl) Sb.a rfl rfl (rd_indexAddr rfl rfl (by omega) (by omega)) rfl (by kernel_rfl) ?_
      refine xm_gtake 12 (m' := 8191) rfl (by kernel_rfl) Sb.a rfl rfl (rd_load1 rfl hc2) rfl (by kernel_rfl) ?_
      refine xm_gone 13 (m' := 16383) rfl (by kernel_rfl) rfl rfl rfl (by kernel_rfl) (ef_call rfl (XF.mono (xf_less X Y true (decide_eq_true hlt)) ?_))
      rintro v L' ⟨rfl, rfl⟩
      refine ⟨Sb.a, ?_⟩
      refine xm_take 14 (m' := 32767) rfl (by kernel_rfl) Sb.a (rd_pickt rfl rfl) rfl (by kernel_rfl) ?_
      refine xm_done (by kernel_rfl) ?_
      refine xq_seq ?_
      refine xc_condt rfl ?_
      refine xc_skip ?_
      refine xq_seq ?_
    have hcX : ∀ l2, SlQ 1 30 (.slice (some ⟨b, o, none⟩) n c) n (ints .u32 (ys.set j Y)) l2 → Cl W (l2 ++ R) b (o + (j : Int).toNat * 1) (.int .u32 Y) := fun l2 h => by
      obtain ⟨b2, o2, h1, h2⟩ := (h.rsl (W := W) (R := R)).int (i := j) (by rw [List.length_set]; omega)
      simp only [Option.some.injEq, Addr.mk.injEq, and_true] at h1
      obtain ⟨rfl, rfl⟩ := h1
      rw [List.getElem_set_self] at h2
      exact h2
    focus
      refine xc_seq ?_
      refine xc_block ?_
      refine xc_drawM [0, 0, 0, 0, 8, 0, 0, 64, 160, 256, 0, 0, 3072, 4096, 9187, 25571, 65535, 131071] [0, 0, 0, 0, 8, 0, 0, 64, 160, 256, 0, 0, 3072, 4096, 9187, 25571, 65535, 131071] [] (by kernel_rfl) (by kernel_rfl) (by kernel_rfl) ?_
      refine xm_take 0 (m' := 1) rfl (by kernel_rfl) Sb.a (rd_move rfl) rfl (by kernel_rfl) ?_
      refine xm_take 1 (m' := 3) rfl (by kernel_rfl) Sb.a (rd_move rfl) rfl (by kernel_rfl) ?_
      refine xm_take 2 (m' := 7) rfl (by kernel_rfl) Sb.a (rd_move rfl) rfl (by kernel_rfl) ?_
      refine xm_take 3 (m' := 15) rfl (by kernel_rfl) Sb.a (rd_move rfl) rfl (by kernel_rfl) ?_
      refine xm_take 4 (m' := 31) rfl (by kernel_rfl) Sb.a (rd_subn rfl rfl (by omega) (by omega)) rfl (by kernel_rfl) ?_
      refine xm_take 5 (m' := 63) rfl (by kernel_rfl) Sb.a (rd_move rfl) rfl (by kernel_rfl) ?_
      refine xm_take 6 (m' := 127) rfl (by kernel_rfl) Sb.a (rd_move rfl) rfl (by kernel_rfl) ?_
      refine xm_take 7 (m' := 255) rfl (by kernel_rfl) Sb.a (rd_subn rfl rfl (by omega) (by omega)) rfl (by kernel_rfl) ?_
      refine xm_take 8 (m' := 511) rfl (by kernel_rfl) Sb.a (rd_indexAddr rfl rfl (by omega) (by omega)) rfl (by kernel_rfl) ?_
      refine xm_take 10 (m' := 1535) rfl (by kernel_rfl) Sb.a (rd_move rfl) rfl (by kernel_rfl) ?_
      refine xm_take 11 (m' := 3583) rfl (by kernel_rfl) Sb.a (rd_move rfl) rfl (by kernel_rfl) ?_
      refine xm_take 12 (m' := 7679) rfl (by kernel_rfl) Sb.a (rd_indexAddr rfl rfl (by omega) (by omega)) rfl (by kernel_rfl) ?_
      refine xm_two 9 13 (mi := 8191) (mk := 15871) rfl rfl (by kernel_rfl) rfl rfl (by kernel_rfl) (by kernel_rfl) (ef_rd (rd_load1 rfl hc2) ⟨Sb.a, ?_⟩) (ef_rd (rd_load1 rfl hc) ⟨Sb.a, ?_⟩)
      refine xm_one 13 (m' := 16383) rfl (by kernel_rfl) rfl (by kernel_rfl) (ef_rd (rd_load1 rfl hc) ?_)
      refine ⟨Sb.a, ?_⟩
      refine xm_take 14 (m' := 32767) rfl (by kernel_rfl) Sb.a (rd_indexAddr rfl rfl (by omega) (by omega)) rfl (by kernel_rfl) ?_
      refine xm_one 15 (m' := 65535) rfl (by kernel_rfl) rfl (by kernel_rfl) (ef_storeQ1 [] R j (v := .int .u32 Y) hO1 rfl (by omega) rfl rfl rfl (by omega) rfl fun l2 hO2 => ?_)
      refine ⟨Sb.a, ?_⟩
      refine xm_take 16 (m' := 131071) rfl (by kernel_rfl) Sb.a (rd_indexAddr rfl rfl (by omega) (by omega)) rfl (by kernel_rfl) ?_
      refine xm_one 17 (m' := 262143) rfl (by kernel_rfl) rfl (by kernel_rfl) (ef_storeQ1 [] R (j - 1) (v := .int .u32 X) hO2 rfl (by omega) rfl rfl rfl (by omega) rfl fun l3 hO3 => ?_)
      refine ⟨Sb.a, ?_⟩
      refine xm_done (by kernel_rfl) ?_
      refine xq_block ?_
      refine xq_seq ?_
      refine xc_region ?_
      refine xo_rd (rd_move rfl) rfl ?_
      refine xo_rd (rd_subn rfl rfl (by omega) (by omega)) rfl ?_
      refine xo_rd (rd_assign rfl) rfl ?_
      refine xo_nil ?_
      rotate_left
      refine xm_one 9 (m' := 16383) rfl (by kernel_rfl) rfl (by kernel_rfl) (ef_rd (rd_load1 rfl hc2) ?_)
      refine ⟨Sb.a, ?_⟩
      refine xm_take 14 (m' := 32767) rfl (by kernel_rfl) Sb.a (rd_indexAddr rfl rfl (by omega) (by omega)) rfl (by kernel_rfl) ?_
      refine xm_one 15 (m' := 65535) rfl (by kernel_rfl) rfl (by kernel_rfl) (ef_storeQ1 [] R j (v := .int .u32 Y) hO1 rfl (by omega) rfl rfl rfl (by omega) rfl fun l2 hO2 => ?_)
      refine ⟨Sb.a, ?_⟩
      refine xm_take 16 (m' := 131071) rfl (by kernel_rfl) Sb.a (rd_indexAddr rfl rfl (by omega) (by omega)) rfl (by kernel_rfl) ?_
      refine xm_one 17 (m' := 262143) rfl (by kernel_rfl) rfl (by kernel_rfl) (ef_storeQ1 [] R (j - 1) (v := .int .u32 X) hO2 rfl (by omega) rfl rfl rfl (by omega) rfl fun l3 hO3 => ?_)
      refine ⟨Sb.a, ?_⟩
      refine xm_done (by kernel_rfl) ?_
      refine xq_block ?_
      refine xq_seq ?_
      refine xc_region ?_
      refine xo_rd (rd_move rfl) rfl ?_
      refine xo_rd (rd_subn rfl rfl (by omega) (by omega)) rfl ?_
      refine xo_rd (rd_assign rfl) rfl ?_
      refine xo_nil ?_
      rotate_left
    all_goals exact xq_roundI (⟨j - 1, (ys.set j Y).set (j - 1) X, l3⟩ : InS) ⟨by dsimp only; omega, hpm2, hsw, by dsimp only; rw [ints_set, ints_set]; exact hO3⟩ (by dsimp only; omega) rfl (by dsimp only; rw [show ((j - 1 : Nat) : Int) = (j : Int) - 1 by omega]; exact (by repeat (first | exact keep_nil | refine keep_cons rfl ?_)))
  · skip
    focus
      refine xc_seq ?_
      refine xc_seq ?_
      refine xc_drawM [0, 0, 3, 4, 8, 8, 56, 72, 8, 8, 520, 1288, 2056, 4232, 8200] [0, 0, 3, 4, 8, 8, 56, 72, 8, 8, 520, 1288, 2056, 4232, 8200] (l1 ++ R) (by kernel_rfl) (by kernel_rfl) (by kernel_rfl) ?_
      refine xm_take 0 (m' := 1) rfl (by kernel_rfl) Sb.a (rd_move rfl) rfl (by kernel_rfl) ?_
      refine xm_take 1 (m' := 3) rfl (by kernel_rfl) Sb.a (rd_move rfl) rfl (by kernel_rfl) ?_
      refine xm_take 2 (m' := 7) rfl (by kernel_rfl) Sb.a (rd_gtr rfl rfl) rfl (by kernel_rfl) ?_
      refine xm_take 3 (m' := 15) rfl (by kernel_rfl) Sb.a (rd_move rfl) rfl (by kernel_rfl) ?_
      refine xm_dec 19 rfl (fun h1 => ?_) (fun h1 => (by exfalso; omega))
      refine xm_gtake 4 (m' := 31) rfl (by kernel_rfl) Sb.a rfl rfl (rd_move rfl) rfl (by kernel_rfl) ?_
      refine xm_gtake 5 (m' := 63) rfl (by kernel_rfl) Sb.a rfl rfl (rd_move rfl) rfl (by kernel_rfl) ?_
      refine xm_gtake 6 (m' := 127) rfl (by kernel_rfl) Sb.a rfl rfl (rd_indexAddr rfl rfl (by omega) (by omega)) rfl (by kernel_rfl) ?_
      refine xm_gtake 7 (m' := 255) rfl (by kernel_rfl) Sb.a rfl rfl (rd_load1 rfl hc) rfl (by kernel_rfl) ?_
      refine xm_gtake 8 (m' := 511) rfl (by kernel_rfl) Sb.a rfl rfl (rd_move rfl) rfl (by kernel_rfl) ?_
      refine xm_gtake 9 (m' := 1023) rfl (by kernel_rfl) Sb.a rfl rfl (rd_move rfl) rfl (by kernel_rfl) ?_
      refine xm_gtake 10 (m' := 2047) rfl (by kernel_rfl) Sb.a rfl rfl (rd_subn rfl rfl (by omega) (by omega)) rfl (by kernel_rfl) ?_
      refine xm_gtake 11 (m' := 4095) rfl (by kernel_rfl) Sb.a rfl rfl (rd_indexAddr rfl rfl (by omega) (by omega)) rfl (by kernel_rfl) ?_
      refine xm_gtake 12 (m' := 8191) rfl (by kernel_rfl) Sb.a rfl rfl (rd_load1 rfl hc2) rfl (by kernel_rfl) ?_
      refine xm_gone 13 (m' := 16383) rfl (by kernel_rfl) rfl rfl rfl (by kernel_rfl) (ef_call rfl (XF.mono (xf_less _ _ false (decide_eq_false hlt)) ?_))
      rintro v L' ⟨rfl, rfl⟩
      refine ⟨Sb.a, ?_⟩
      refine xm_take 14 (m' := 32767) rfl (by kernel_rfl) Sb.a (rd_pickt rfl rfl) rfl (by kernel_rfl) ?_
      refine xm_done (by kernel_rfl) ?_
      refine xq_seq ?_
      refine xc_condf rfl ?_
      refine xc_exit ?_
      refine xq_then_exit ?_
      refine xq_then_exit ?_
      refine xq_block_hit ?_
      refine xq_block ?_
      refine xq_seq ?_
      refine xc_region ?_
      refine xo_rd (rd_move rfl) rfl ?_
      refine xo_rd (rd_addn rfl rfl (by omega) (by omega)) rfl ?_
      refine xo_rd (rd_assign rfl) rfl ?_
      refine xo_nil ?_
    all_goals exact xq_roundI (⟨i + 1, ys, l1⟩ : InS) ⟨by dsimp only; omega, by dsimp only; omega, hpm, hsr.done (.inr (by omega)), hO1⟩ (by dsimp only; omega) rfl (by repeat (first | exact keep_nil | refine keep_cons rfl ?_))
end Go.Proofs.Ytoolgphkfnkajaa.X
/-
  Chapter 23: few numbers sorted by the library's sort: walks of my own.
-/
namespace Go.Proofs.Ytoolgphkfnkajaa.X
open Go Go.RowKit
set_option linter.unusedVariables false
set_option linter.unusedSimpArgs false
theorem at256 {s : ByteArray} {j : Nat} (h : s.size = 256) (hj : j < 256) : s[j]? = some (s[j]'(h ▸ hj)) := getElem?_pos s j (h ▸ hj)
set_option maxRecDepth 8000 in
theorem xf_len64 {W : World} {L : List Blk} (x : Nat) (hx : x ≤ 12) : XF Try.prog W 58 #[.int .u64 x] L (fun v L' => ∃ k, v = .int .i64 k ∧ L' = L) := by
  refine xf_enter (args := [_]) Try.func58 rfl Try.ntmps58 rfl ?_
  focus
    refine xc_seq ?_
    refine xc_region ?_
    refine xo_rd (rd_assign rfl) rfl ?_
    refine xo_nil ?_
    refine xq_seq ?_
    refine xc_seq ?_
    refine xc_seq ?_
    refine xc_region ?_
    refine xo_rd (rd_move rfl) rfl ?_
    refine xo_rd (rd_geq rfl rfl) rfl ?_
    refine xo_nil ?_
    refine xq_seq ?_
    refine xc_dec rfl (fun h1 => (by exfalso; omega)) (fun h1 => ?_)
    refine xc_skip ?_
    refine xq_seq ?_
    refine xc_seq ?_
    refine xc_seq ?_
    refine xc_region ?_
    refine xo_rd (rd_move rfl) rfl ?_
    refine xo_rd (rd_geq rfl rfl) rfl ?_
    refine xo_nil ?_
    refine xq_seq ?_
    refine xc_dec rfl (fun h2 => (by exfalso; omega)) (fun h2 => ?_)
    refine xc_skip ?_
    refine xq_seq ?_
    refine xc_seq ?_
    refine xc_seq ?_
    refine xc_region ?_
    refine xo_rd (rd_move rfl) rfl ?_
    refine xo_rd (rd_geq rfl rfl) rfl ?_
    refine xo_nil ?_
    refine xq_seq ?_
    refine xc_dec rfl (fun h3 => (by exfalso; omega)) (fun h3 => ?_)
    refine xc_skip ?_
    refine xq_seq ?_
    refine xc_seq ?_
    refine xc_region ?_
    refine xo_rd (rd_move rfl) rfl ?_
    refine xo_rd (rd_move rfl) rfl ?_
    refine xo_rd (rd_convn rfl (by omega) (by omega)) rfl ?_
  refine xo_rd (rd_indexStr rfl rfl (by omega) (at256 (by kernel_rfl) (by omega))) rfl ?_
  focus
    refine xo_rd (rd_conv rfl) rfl ?_
    refine xo_rd (rd_add rfl rfl) rfl ?_
    refine xo_rd (rd_assign rfl) rfl ?_
    refine xo_nil ?_
    refine xq_seq ?_
    refine xc_ret ?_
  exact xq_ret1 (.inl rfl) Try.results58 rfl ⟨_, rfl, rfl⟩
theorem xf_len {W : World} {L : List Blk} (x : Nat) (hx : x ≤ 12) : XF Try.prog W 47 #[.int .u64 x] L (fun v L' => ∃ k, v = .int .i64 k ∧ L' = L) := by
  refine xf_enter (args := [_]) Try.func47 rfl Try.ntmps47 rfl ?_
  focus
    refine xc_seq ?_
    refine xc_region ?_
    refine xo_rd (rd_assign rfl) rfl ?_
    refine xo_nil ?_
    refine xq_seq ?_
    refine xc_seq ?_
    refine xc_condf rfl ?_
    refine xc_skip ?_
    refine xq_seq ?_
    refine xc_seq ?_
    refine xc_region ?_
    refine xo_rd (rd_move rfl) rfl ?_
    refine xo_ef rfl (ef_call rfl (XF.mono (xf_len64 x hx) ?_))
    rintro v L' ⟨k, rfl, rfl⟩
    refine xo_rd (rd_assign rfl) rfl ?_
    refine xo_nil ?_
    refine xq_seq ?_
    refine xc_ret ?_
  refine xq_ret1 (.inl rfl) Try.results47 rfl ?_
  exact ⟨k, rfl, rfl⟩
theorem xf_pdq {W : World} {R : List Blk} (p : Option Addr) (n c : Nat) (lim : Int) (xs : List Int) (l : List Blk) (hx : xs.length = n) (hO : SlQ 1 30 (.slice p n c) n (ints .u32 xs) l) (hn : n ≤ 12) :
    XF Try.prog W 46 #[.slice p n c, .int .i64 0, .int .i64 n, .int .i64 lim] (l ++ R) (fun v L' => v = .tuple #[] ∧ ∃ ys l', SlQ 1 30 (.slice p n c) n (ints .u32 ys) l' ∧ ys.Perm xs ∧ SrtT ys n ∧ L' = l' ++ R) := by
  refine xf_enter (args := [_, _, _, _]) Try.func46 rfl Try.ntmps46 rfl ?_
  focus
    refine xc_seq ?_
    refine xc_region ?_
    refine xo_rd (rd_assign rfl) rfl ?_
    refine xo_nil ?_
    refine xq_seq ?_
    refine xc_seq ?_
    refine xc_region ?_
    refine xo_rd (rd_assign rfl) rfl ?_
    refine xo_nil ?_
    refine xq_seq ?_
    refine xc_block ?_
  refine xc_loopI (ι := Unit) (fun _ => True) (fun _ => 0) (fun _ => l ++ R) (fun _ => [(0, .slice p n c), (1, .int .i64 0), (2, .int .i64 n), (3, .int .i64 lim)]) () trivial rfl (by repeat (first | exact keep_nil | refine keep_cons rfl ?_)) ?_
  rintro ⟨⟩ _
  focus
    refine xc_block ?_
    refine xc_seq ?_
    refine xc_region ?_
    refine xo_rd (rd_move rfl) rfl ?_
    refine xo_rd (rd_move rfl) rfl ?_
    refine xo_rd (rd_subn rfl rfl (by omega) (by omega)) rfl ?_
    refine xo_rd (rd_assign rfl) rfl ?_
    refine xo_nil ?_
    refine xq_seq ?_
    refine xc_seq ?_
    refine xc_seq ?_
    refine xc_region ?_
    refine xo_rd (rd_move rfl) rfl ?_
    refine xo_rd (rd_leq rfl rfl) rfl ?_
    refine xo_nil ?_
    refine xq_seq ?_
    refine xc_dec rfl (fun h1 => ?_) (fun h1 => (by exfalso; omega))
    refine xc_seq ?_
    refine xc_region ?_
    refine xo_rd (rd_move rfl) rfl ?_
    refine xo_rd (rd_move rfl) rfl ?_
    refine xo_rd (rd_move rfl) rfl ?_
    refine xo_ef rfl (ef_call rfl (XF.mono (xf_insertion p n c xs l hx hO (by omega)) ?_))
    rintro v L' ⟨rfl, ys, l2, hO2, hpm, hsr, rfl⟩
    refine xo_nil ?_
    refine xq_seq ?_
    refine xc_ret ?_
    refine xq_then_ret ?_
    refine xq_block_ret ?_
    refine xq_then_ret ?_
    refine xq_block_ret ?_
  exact xq_ret0 (.inl rfl) Try.results46 ⟨rfl, ys, l2, hO2, hpm, hsr, rfl⟩
theorem xf_sort {W : World} {R : List Blk} (p : Option Addr) (n c : Nat) (xs : List Int) (l : List Blk) (hx : xs.length = n) (hO : SlQ 1 30 (.slice p n c) n (ints .u32 xs) l) (hn : n ≤ 12) :
    XF Try.prog W 40 #[.slice p n c] (l ++ R) (fun v L' => v = .tuple #[] ∧ ∃ ys l', SlQ 1 30 (.slice p n c) n (ints .u32 ys) l' ∧ ys.Perm xs ∧ SrtT ys n ∧ L' = l' ++ R) := by
  refine xf_enter (args := [_]) Try.func40 rfl Try.ntmps40 rfl ?_
  focus
    refine xc_seq ?_
    refine xc_region ?_
    refine xo_rd (rd_move rfl) rfl ?_
    refine xo_rd (rd_len rfl) rfl ?_
    refine xo_rd (rd_assign rfl) rfl ?_
    refine xo_nil ?_
    refine xq_seq ?_
    refine xc_region ?_
    refine xo_rd (rd_move rfl) rfl ?_
    refine xo_rd (rd_move rfl) rfl ?_
    refine xo_rd (rd_move rfl) rfl ?_
    refine xo_rd (rd_convn rfl (by omega) (by omega)) rfl ?_
    refine xo_ef rfl (ef_call rfl (XF.mono (xf_len n hn) ?_))
    rintro v L' ⟨k, rfl, rfl⟩
    refine xo_ef rfl (ef_call rfl (XF.mono (xf_pdq p n c k xs l hx hO hn) ?_))
    rintro v L' ⟨rfl, ys, l2, hO2, hpm, hsr, rfl⟩
    refine xo_nil ?_
  exact xq_ret0 (.inr rfl) Try.results40 ⟨rfl, ys, l2, hO2, hpm, hsr, rfl⟩
/-- A rising row is told by what is on it. -/
theorem srt_eq : ∀ {xs ks : List Int}, xs.Perm ks → SrtT xs xs.length → ks.Pairwise (· < ·) → xs = ks
  | [], ks, hp, _, _ => by simpa using hp.symm
  | x :: xs, [], hp, _, _ => by simp at hp
  | x :: xs, k :: ks, hp, hs, hk => by
    have hk2 := List.pairwise_cons.1 hk
    have hxk : x = k := by
      have h1 : x ∈ k :: ks := hp.subset List.mem_cons_self
      have h2 : k ∈ x :: xs := hp.symm.subset List.mem_cons_self
      rcases List.mem_cons.1 h1 with h1 | h1
      · exact h1
      rcases List.mem_cons.1 h2 with h2 | h2
      · exact h2.symm
      have h3 := hk2.1 x h1
      obtain ⟨i, hi, he⟩ := List.mem_iff_getElem.1 h2
      have h4 := hs 0 (i + 1) (by omega) (by rw [List.length_cons]; omega)
      have h5 : (x :: xs).getD (i + 1) 0 = k := by
        rw [List.getD_eq_getElem?_getD, List.getElem?_cons_succ, List.getElem?_eq_getElem hi, he]; rfl
      rw [h5] at h4
      have h6 : (x :: xs).getD 0 0 = x := rfl
      rw [h6] at h4
      omega
    subst hxk
    have h7 : xs.Perm ks := List.Perm.cons_inv hp
    rw [srt_eq h7 (fun a b h1 h2 => by
      have := hs (a + 1) (b + 1) (by omega) (by rw [List.length_cons]; omega)
      simpa using this) hk2.2]
end Go.Proofs.Ytoolgphkfnkajaa.X
/-
  Chapter 23: what a requester is, in memory; the keys of its map, in order: walks of my own.
-/
namespace Go.Proofs.Ytoolgphkfnkajaa.X
open Go Go.RowKit
set_option linter.unusedVariables false
set_option linter.unusedSimpArgs false
theorem callsIn_enter {P : Program} {W : World} {fn : Func} {c : Code} {f : FuncId} {args : List Value} {n : Nat} {L : List Blk} {R : Ending → World → Prop} (hf : P.funcs[f]? = some fn) (hb : fn.body = some c) (hn : fn.ntmps = n) (hl : Nat.ble args.length n = true)
    (h : XCI Fence.wide 0 [] P W n c (bodyPostM Fence.wide 0 P fn R) L (zipArgs 0 args)) : ∀ w, Hp W w L → CallsIn Fence.wide 0 P f args.toArray w R := fun w hw => by
  have he : Env n { tmps := args.toArray ++ Array.replicate (fn.ntmps - args.toArray.size) undef, defers := [] } (zipArgs 0 args) := by
    refine ⟨rfl, ?_, fun i v hv => ?_⟩
    · have : args.length ≤ n := by simpa [Nat.ble_eq] using hl
      simp [hn]; omega
    · obtain ⟨_, h2⟩ := lk_zipArgs args 0 i v hv
      have h3 := (List.getElem?_eq_some_iff.1 h2).1
      simp only [Nat.sub_zero] at h2 h3
      rw [Array.getElem?_append_left (by simpa using h3)]
      simpa using h2
  have h1 := h.run _ w he hw
  rw [Act.ds_nil he] at h1
  exact callsIn_of_wp_marks hf hb trivial h1
theorem xci_tail0 {F : Fence} {m : Nat} {P : Program} {W : World} {n : Nat} {y : Code} {Q Q0 : Exit → Go.Act → World → Prop} {L : List Blk} {E : List (Nat × Value)} (h : XCI F m [] P W n y Q L E) : XQ W n (Exit.then (fun a w => y.wpIn F m P Q a w) Q0) .normal L E := .mk fun a w ha hw => by
  have := h.run a w ha hw
  rwa [Act.ds_nil ha] at this
/-- The iterator returns: nothing. -/
theorem xqR {P : Program} {W : World} {n : Nat} {fn : Func} {R : Ending → World → Prop} {L : List Blk} {E : List (Nat × Value)} {e : Exit} (he : e = .ret ∨ e = .normal) (hr : fn.results = #[]) (h : ∀ w, Hp W w L → R (.returned (.tuple #[])) w) : XQ W n (bodyPostM Fence.wide 0 P fn R) e L E := .mk fun a w ha hw => by
  have hres : (results fn a.tmps).run P w = .ok (.tuple #[]) w := results_none hr _ _ _
  rcases he with rfl | rfl
  · show LeavesInM _ _ _ _ _ _ a.defers _ _
    rw [ha.defers]
    exact ⟨_, hres, h w hw⟩
  · show LeavesInM _ _ _ _ _ _ a.defers _ _
    rw [ha.defers]
    exact ⟨_, hres, h w hw⟩
theorem xq_d0 {W : World} {n : Nat} {Q : Exit → Go.Act → World → Prop} {e : Exit} {L : List Blk} {E : List (Nat × Value)} (h : XQ W n Q e L E) : XQ W n (Qd [] Q) e L E := .mk fun a w ha hw => by
  show Q e (Act.ds a []) w
  rw [Act.ds_nil ha]; exact h.run a w ha hw
theorem xqi_round0 {W : World} {n : Nat} {Q : Exit → Go.Act → World → Prop} {L : List Blk} {E : List (Nat × Value)} {ι : Type} {I : ι → Prop} {μ : ι → Nat} {Ls : ι → List Blk} {Es : ι → List (Nat × Value)} {k : Nat} (j : ι) (hj : I j) (hm : μ j < k) (hL : L = Ls j) (hE : ∀ k v, lk (Es j) k = some v → lk E k = some v) :
    XQ W n (Exit.then (fun a w => ∃ b, a = Act.ds b [] ∧ ∃ j, I j ∧ μ j < k ∧ Env n b (Es j) ∧ Hp W w (Ls j)) Q) .normal L E := .mk fun a w ha hw => by
  have := (xqi_round (ds := []) (Q := Q) j hj hm hL hE).run a w ha hw
  unfold Qd at this
  rwa [Act.ds_nil ha] at this
theorem xqd_block {W : World} {n id : Nat} {ds : List Deferred} {Q : Exit → Go.Act → World → Prop} {L : List Blk} {E : List (Nat × Value)} (h : XQ W n (Qd ds Q) .normal L E) : XQ W n (Qd ds (Exit.inBlock id Q)) .normal L E := .mk fun a w ha hw => h.run a w ha hw
theorem SlO.one {s : Nat} {e : TypeId} {v : Value} {m : Nat} {xs : List Value} {l : List Blk} (h : SlO s e v m xs l) : v.oneCell' = true := by
  obtain ⟨p, c, rfl⟩ := h.val
  rfl
theorem MpR.cong {k : IntKind} {m : Nat} {o it : Obj} {f g : Int → Option Value} {s t : Nat} {left : List Int} {cur : Option Int} (h : MpR k m o it f s left cur) (hf : ∀ z, f z = g z) (hs : s = t) : MpR k m o it g t left cur := by
  obtain rfl : f = g := funext hf
  subst hs
  exact h
theorem MpR.left_some {k : IntKind} {m : Nat} {o it : Obj} {f : Int → Option Value} {s : Nat} {left : List Int} {cur : Option Int} (h : MpR k m o it f s left cur) {n : Int} (hn : n ∈ left) : (f n).isSome = true := by
  obtain ⟨l, c, seen, _, _, h3, _, h5, _, _, _, h9, _⟩ := h
  obtain ⟨e, he, rfl⟩ := List.mem_map.1 (h9 n hn)
  rw [← h5, mfind_mem h3 he]; rfl
theorem MpR.nodup {k : IntKind} {m : Nat} {o it : Obj} {f : Int → Option Value} {s : Nat} {left : List Int} {cur : Option Int} (h : MpR k m o it f s left cur) : left.Nodup := by
  obtain ⟨l, c, seen, _, _, h3, _, h5, _, _, _, h9, h10, _⟩ := h
  exact h10
/-- What is known of a source. -/
structure Sr where
  id : Int
  last : Int
  sent : Int
  wt : Int
def sEnc (last sent wt : Int) : List Value := [.int .u64 last, .int .u64 sent, .int .u64 wt]
def Sr.v (s : Sr) : Value := .agg (sEnc s.last s.sent s.wt).toArray
def srF (l : List Sr) (z : Int) : Option Sr := l.find? fun s => s.id == z
def srV (l : List Sr) : Int → Option Value := fun z => (srF l z).map Sr.v
theorem srF_mem {l : List Sr} {z : Int} : (srF l z).isSome = true ↔ z ∈ l.map Sr.id := by
  unfold srF
  rw [List.find?_isSome, List.mem_map]
  simp
theorem srV_mem {l : List Sr} {z : Int} : (srV l z).isSome = true ↔ z ∈ l.map Sr.id := by
  unfold srV
  rw [Option.isSome_map]; exact srF_mem
/-- Where the keys stand. -/
structure KyS where
  it : Obj
  left : List Int
  cur : Option Int
  pre : List Int
  L : List Blk
set_option maxHeartbeats 1600000 in
theorem it_keys {W : World} (L0 : List Blk) (rb mb : Nat) (mo : Obj) (l : List Sr) (hm : MpIs .u32 mo (srV l) l.length) (hnd : (l.map Sr.id).Nodup) (hl : l.length ≤ 12) :
    XIt Try.prog W 41 #[.pointer (some ⟨rb, 0, none⟩)] (fun x : Int => Value.int .u32 x) (fun _ => []) (fun xs => xs.Perm (l.map Sr.id)) (fun _ => True) 12 ((rb, .cells #[.map (some mb)] 46 (0, 0)) :: (mb, mo) :: L0) := by
  intro l' I Ix hk hY L w h0 hw
  refine callsIn_enter (args := [.func (.yield l') #[] #[], .pointer (some ⟨rb, 0, none⟩)]) Try.func41 rfl Try.ntmps41 rfl ?_ w hw
  have hbox : ∀ pre L', I pre L' → Kn W L' rb (.cells #[.map (some mb)] 46 (0, 0)) := fun pre L' h => .inr (hk pre L' h _ (List.mem_cons_self ..))
  have hkn : ∀ pre L', I pre L' → Kn W L' mb mo := fun pre L' h => .inr (hk pre L' h _ (List.mem_cons_of_mem _ List.mem_cons_self))
  have hWd : Wd Fence.wide := .inl rfl
  refine xci_seq (xci_wide ?_)
  focus
    refine xc_region ?_
    refine xo_rd (rd_load1 rfl ⟨_, _, _, hbox _ _ h0, rfl⟩) rfl ?_
    refine xo_ef rfl (ef_range hm rfl (hkn _ _ h0) fun r5 it left hrg hll hlm => ?_)
    refine xo_nil ?_
  have hpm : left.Perm (l.map Sr.id) := (List.perm_ext_iff_of_nodup hrg.nodup hnd).2 fun z => by rw [hlm, srV_mem]
  refine xci_tail0 (xci_block (xci_loopI (ι := KyS) (fun s => MpR .u32 mb mo s.it (srV l) l.length s.left s.cur ∧ (s.pre ++ s.left).Perm (l.map Sr.id) ∧ I s.pre s.L) (fun s => s.left.length) (fun s => (r5, s.it) :: s.L) (fun s => [(0, .func (.yield l') #[] #[]), (5, .pointer (some ⟨r5, 0, none⟩))]) ⟨it, left, none, [], _⟩ ⟨hrg, hpm, h0⟩ rfl (by repeat (first | exact keep_nil | refine keep_cons rfl ?_)) ?_))
  clear hrg hll hlm hpm
  rintro ⟨it, left, cur, pre, L1⟩ ⟨hrg, hpm, hI1⟩
  dsimp only at hrg hpm hI1 ⊢
  have hlen : pre.length + left.length ≤ 12 := by have := hpm.length_eq; rw [List.length_append, List.length_map] at this; omega
  refine xci_seq (xci_wide ?_)
  cases left with
  | nil =>
    focus
      refine xc_region ?_
      refine xo_ef rfl (ef_next [] _ hrg rfl rfl (.inr (List.mem_cons_of_mem _ (hk _ _ hI1 _ (List.mem_cons_of_mem _ List.mem_cons_self)))) (fun _ => ?_) (fun n v it' hn => by cases hn))
      refine xo_rd (rd_extract rfl rfl) rfl ?_
      refine xo_nil ?_
    refine xci_tail0 (xci_seq (xci_wide ?_))
    focus
      refine xc_condf rfl ?_
      refine xc_exit ?_
      refine xq_then_exit ?_
      refine xq_then_exit ?_
    refine xq_block_hit (xqR (.inr rfl) rfl fun w hw => ⟨⟨_, rfl⟩, .inl ⟨pre, L1, by rw [List.append_nil] at hpm; exact hpm, hI1, hw.sub (List.sublist_cons_self _ _)⟩⟩)
  | cons x r =>
    rw [List.length_cons] at hlen
    focus
      refine xc_region ?_
      refine xo_ef rfl (ef_next [] _ hrg rfl rfl (.inr (List.mem_cons_of_mem _ (hk _ _ hI1 _ (List.mem_cons_of_mem _ List.mem_cons_self)))) (fun h => by cases h) (fun n v it' hn hv hrg' => ?_))
      refine xo_rd (rd_extract rfl rfl) rfl ?_
      refine xo_nil ?_
    refine xci_tail0 (xci_seq (xci_wide ?_))
    focus
      refine xc_condt rfl ?_
      refine xc_skip ?_
    refine xci_tail0 (xci_block (xci_seq (xci_wide ?_)))
    focus
      refine xc_region ?_
      refine xo_rd (rd_entry hrg' hv rfl (.inr List.mem_cons_self) (.inr (List.mem_cons_of_mem _ (hk _ _ hI1 _ (List.mem_cons_of_mem _ List.mem_cons_self))))) rfl ?_
      refine xo_rd (rd_extract rfl rfl) rfl ?_
      refine xo_rd (rd_assign rfl) rfl ?_
      refine xo_nil ?_
    refine xci_tail0 (xci_seq (xci_region ?_))
    refine xi_rd hWd (fun _ h => by cases h) (rd_move rfl) rfl ?_
    refine xi_rd hWd (fun _ h => by cases h) (rd_move rfl) rfl ?_
    refine xi_yieldAt (vs := [.int .u32 n]) (fun L2 => ∃ L3, I (pre ++ [n]) L3 ∧ L2 = (r5, it') :: L3) (fun L2 => ∃ L3, Ix (pre ++ [n]) L3 ∧ L2 = (r5, it') :: L3) rfl rfl rfl (fun w hw => ?_) ?_ ?_
    · obtain ⟨fn, tmps, assign, body, h1, h2⟩ := hY pre n [(r5, it')] L1 w hI1 (by omega) hw
      refine ⟨fn, tmps, assign, body, h1, h2.mono ?_⟩
      rintro e w' (⟨he, L3, h3, h4⟩ | ⟨he, L3, h3, h4⟩)
      · exact .inl ⟨he, _, ⟨L3, h3, rfl⟩, h4⟩
      · exact .inr ⟨he, _, ⟨L3, h3, rfl⟩, h4⟩
    · rintro L2 ⟨L3, hI3, rfl⟩
      refine xi_rd hWd (fun _ h => by cases h) (rd_not rfl) rfl ?_
      refine xi_nil (xq_d0 (xci_tail0 (xci_wide ?_)))
      focus
        refine xc_condf rfl ?_
        refine xc_skip ?_
        refine xq_block ?_
      refine xqi_round0 (⟨it', (x :: r).erase n, some n, pre ++ [n], L3⟩ : KyS) ⟨hrg', ?_, hI3⟩ ?_ rfl (by repeat (first | exact keep_nil | refine keep_cons rfl ?_))
      · dsimp only
        rw [List.append_assoc]
        exact ((List.perm_cons_erase hn).symm.append_left pre).trans hpm
      · dsimp only
        rw [List.length_erase_of_mem hn, List.length_cons]; omega
    · rintro L2 ⟨L3, hI3, rfl⟩
      refine xi_rd hWd (fun _ h => by cases h) (rd_not rfl) rfl ?_
      refine xi_nil (xq_d0 (xci_tail0 (xci_wide ?_)))
      focus
        refine xc_condt rfl ?_
        refine xc_ret ?_
        refine xq_block_ret ?_
        refine xq_then_ret ?_
        refine xq_block_ret ?_
      exact xqR (.inl rfl) rfl fun w hw => ⟨⟨_, rfl⟩, .inr ⟨_, L3, trivial, hI3, hw.sub (List.sublist_cons_self _ _)⟩⟩
end Go.Proofs.Ytoolgphkfnkajaa.X
/-
  Chapter 23: the keys in a row, sorted: walks of my own.
-/
namespace Go.Proofs.Ytoolgphkfnkajaa.X
open Go Go.RowKit
set_option linter.unusedVariables false
set_option linter.unusedSimpArgs false
set_option maxHeartbeats 1600000 in
theorem xf_appendSeq {W : World} {L : List Blk} (rb mb : Nat) (mo : Obj) (l : List Sr) (hm : MpIs .u32 mo (srV l) l.length) (hnd : (l.map Sr.id).Nodup) (hl : l.length ≤ 12) (hbx : (rb, Obj.cells #[.map (some mb)] 46 (0, 0)) ∈ L) (hmb : (mb, mo) ∈ L) :
    XF Try.prog W 45 #[.slice none 0 0, .func (.func 41) #[] #[.pointer (some ⟨rb, 0, none⟩)]] L (fun v L' => ∃ xs p k lo, v = .slice p l.length k ∧ SlO 1 30 (.slice p l.length k) l.length (ints .u32 xs) lo ∧ xs.Perm (l.map Sr.id) ∧ L' = lo ++ L) := by
  refine xf_enterM (args := [_, _]) Try.func45 rfl Try.ntmps45 rfl ?_
  refine xci_seq (xci_wide ?_)
  focus
    refine xc_region ?_
    refine xo_ef rfl (ef_box rfl fun r2 => ?_)
    refine xo_rd (rd_assign rfl) rfl ?_
    refine xo_nil ?_
  refine xci_tail0 (xci_seq (xci_seq (xci_wide ?_)))
  focus
    refine xc_region ?_
    refine xo_rd (rd_move rfl) rfl ?_
    refine xo_nil ?_
  refine xci_tail0 (xci_block (xci_range (it_keys L rb mb mo l hm hnd hl) rfl (Cf.h (P := Try.prog) (f := 41)) (by decide)
    (fun pre L' => pre.length ≤ 12 ∧ ∃ v lo, SlO 1 30 v pre.length (ints .u32 pre) lo ∧ L' = (r2, .cells #[v] 34 (0, 0)) :: (lo ++ L))
    (fun _ _ _ => False) ?_ ⟨Nat.zero_le _, _, [], SlO.nil, rfl⟩
    (ι := Unit) (fun pre x L' _ => L') (fun _ x _ _ => [(2, .pointer (some ⟨r2, 0, none⟩)), (5, .int .u32 x)]) ?_ ?_ ?_ (fun _ _ _ _ _ h => h.elim)))
  · rintro pre L' ⟨_, v, lo, _, rfl⟩ z hz
    refine List.mem_cons_of_mem _ (List.mem_append_right _ ?_)
    rcases List.mem_cons.1 hz with rfl | hz
    · exact hbx
    rcases List.mem_cons.1 hz with rfl | hz
    · exact hmb
    · exact hz
  · intro l pre x A L' hI hlen
    have hWd : Wd (Fence.wide.inRound l) := .inr ⟨l, rfl⟩
    refine xci_region ?_
    refine xi_rd hWd (fun _ h => by cases h) (rd_assign rfl) rfl ?_
    refine xi_nil (xq_d0 (.mk fun a w ha hw => ⟨(), ha.keep (by repeat (first | exact keep_nil | refine keep_cons rfl ?_)), hw⟩))
  · rintro l' pre x A L' ⟨⟩ ⟨hle, v, lo, hO, rfl⟩ hlen
    have hWd : Wd (Fence.wide.inRound l') := .inr ⟨l', rfl⟩
    refine xci_block (xci_region ?_)
    refine xi_perm (L' := (r2, .cells #[v] 34 (0, 0)) :: (lo ++ (A ++ L))) (by classical exact List.perm_iff_count.2 fun a => by simp only [List.append_eq, List.count_append, List.count_cons, List.count_nil, List.cons_append, List.nil_append, List.flatMap_append, List.flatMap_cons, List.flatMap_nil, List.append_nil]; omega) ?_
    refine xi_rd hWd (fun _ h => by cases h) (rd_load1 rfl (Cl.o0 rfl)) rfl ?_
    refine xi_rd hWd (fun _ h => by cases h) (rd_move rfl) rfl ?_
    refine xi_ef hWd (fun _ h => by cases h) rfl (ef_buildL (T := 34) (len := 1) (s := 1) (cells := (ints .u32 [x]).toArray) rfl (by decide) (by decide) (by kernel_rfl) fun r10 => ?_)
    refine xi_ef hWd (fun _ h => by cases h) rfl (ef_append [_, _] (A ++ L) lo (news := ints .u32 [x]) rfl rfl hO rfl (Rs.fresh (List.Mem.head _)) rfl rfl (by decide) (by omega) (by omega) fun v3 lo3 hO3 => ?_)
    refine xi_ef hWd (fun _ h => by cases h) rfl (ef_store1 [_] _ rfl rfl hO3.one rfl rfl rfl ?_)
    refine xi_nil (xq_d0 (xq_block (.mk fun a w ha hw => ⟨(r2, .cells #[v3] 34 (0, 0)) :: (lo3 ++ L), ⟨by rw [List.length_append]; exact hlen, v3, lo3, ?_, rfl⟩, ?_⟩)))
    · rw [ints_app, List.length_append]; exact hO3
    · replace hw : Hp W w ((r10, .cells (ints .u32 [x]).toArray 30 (0, 0)) :: (r2, .cells #[v3] 34 (0, 0)) :: (lo3 ++ (A ++ L))) := hw
      refine (hw.perm (L' := (r10, .cells (ints .u32 [x]).toArray 30 (0, 0)) :: (A ++ ((r2, .cells #[v3] 34 (0, 0)) :: (lo3 ++ L)))) ?_).sub (List.sublist_cons_self _ _)
      exact (by classical exact List.perm_iff_count.2 fun a => by simp only [List.append_eq, List.count_append, List.count_cons, List.count_nil, List.cons_append, List.nil_append, List.flatMap_append, List.flatMap_cons, List.flatMap_nil, List.append_nil]; omega)
  · rintro D xs L' hS ⟨hle, v, lo, hO, rfl⟩
    have hWd : Wd Fence.wide := .inl rfl
    have hxl : xs.length = l.length := by rw [hS.length_eq, List.length_map]
    rw [hxl] at hO
    obtain ⟨s, k, rfl, hO, _⟩ := hO.opn
    refine xqd_block (xci_tail (xci_seq (xci_region ?_)))
    refine xi_rd hWd (fun _ h => by cases h) (rd_load1 rfl (Cl.o1 rfl)) rfl ?_
    refine xi_rd hWd (fun _ h => by cases h) (rd_assign rfl) rfl ?_
    refine xi_nil (xci_tail (xci_ret (xqm_ret (.inl rfl) (xq_sub (List.sublist_cons_self _ _) (xq_ret1 (.inl rfl) Try.results45 rfl ⟨xs, s, k, lo, rfl, hO, hS, rfl⟩)))))
theorem xf_collect {W : World} {L : List Blk} (rb mb : Nat) (mo : Obj) (l : List Sr) (hm : MpIs .u32 mo (srV l) l.length) (hnd : (l.map Sr.id).Nodup) (hl : l.length ≤ 12) (hbx : (rb, Obj.cells #[.map (some mb)] 46 (0, 0)) ∈ L) (hmb : (mb, mo) ∈ L) :
    XF Try.prog W 39 #[.func (.func 41) #[] #[.pointer (some ⟨rb, 0, none⟩)]] L (fun v L' => ∃ xs p k lo, v = .slice p l.length k ∧ SlO 1 30 (.slice p l.length k) l.length (ints .u32 xs) lo ∧ xs.Perm (l.map Sr.id) ∧ L' = lo ++ L) := by
  refine xf_enter (args := [_]) Try.func39 rfl Try.ntmps39 rfl ?_
  focus
    refine xc_seq ?_
    refine xc_region ?_
    refine xo_rd (rd_assign rfl) rfl ?_
    refine xo_nil ?_
    refine xq_seq ?_
    refine xc_seq ?_
    refine xc_region ?_
    refine xo_rd (rd_move rfl) rfl ?_
    refine xo_ef rfl (ef_call rfl (XF.mono (xf_appendSeq rb mb mo l hm hnd hl hbx hmb) ?_))
    rintro v L' ⟨xs, p, k, lo, rfl, hO, hp, rfl⟩
    refine xo_rd (rd_assign rfl) rfl ?_
    refine xo_nil ?_
    refine xq_seq ?_
    refine xc_ret ?_
  exact xq_ret1 (.inl rfl) Try.results39 rfl ⟨xs, p, k, lo, rfl, hO, hp, rfl⟩
/-- slices.Sorted of the keys: the ids, rising. -/
theorem xf_sorted {W : World} {L : List Blk} (rb mb : Nat) (mo : Obj) (l : List Sr) (hm : MpIs .u32 mo (srV l) l.length) (hso : (l.map Sr.id).Pairwise (· < ·)) (hl : l.length ≤ 12) (hbx : (rb, Obj.cells #[.map (some mb)] 46 (0, 0)) ∈ L) (hmb : (mb, mo) ∈ L) :
    XF Try.prog W 26 #[.func (.func 41) #[] #[.pointer (some ⟨rb, 0, none⟩)]] L (fun v L' => ∃ p k lo, v = .slice p l.length k ∧ SlQ 1 30 (.slice p l.length k) l.length (ints .u32 (l.map Sr.id)) lo ∧ L' = lo ++ L) := by
  have hnd : (l.map Sr.id).Nodup := hso.imp fun h => by omega
  refine xf_enter (args := [_]) Try.func26 rfl Try.ntmps26 rfl ?_
  focus
    refine xc_seq ?_
    refine xc_region ?_
    refine xo_rd (rd_assign rfl) rfl ?_
    refine xo_nil ?_
    refine xq_seq ?_
    refine xc_seq ?_
    refine xc_region ?_
    refine xo_rd (rd_move rfl) rfl ?_
    refine xo_ef rfl (ef_call rfl (XF.mono (xf_collect rb mb mo l hm hnd hl hbx hmb) ?_))
    rintro v L' ⟨xs, p, k, lo, rfl, hO, hp, rfl⟩
    refine xo_rd (rd_assign rfl) rfl ?_
    refine xo_nil ?_
    refine xq_seq ?_
  have hxl : xs.length = l.length := by rw [hp.length_eq, List.length_map]
  focus
    refine xc_seq ?_
    refine xc_region ?_
    refine xo_rd (rd_move rfl) rfl ?_
    refine xo_ef rfl (ef_call rfl (XF.mono (xf_sort p l.length k xs lo hxl hO.q hl) ?_))
    rintro v L' ⟨rfl, ys, l2, hO2, hpm, hsr, rfl⟩
    refine xo_nil ?_
    refine xq_seq ?_
    refine xc_seq ?_
    refine xc_region ?_
    refine xo_rd (rd_move rfl) rfl ?_
    refine xo_rd (rd_assign rfl) rfl ?_
    refine xo_nil ?_
    refine xq_seq ?_
    refine xc_ret ?_
  have hyl : ys.length = l.length := by rw [hpm.length_eq, hxl]
  rw [← hyl] at hsr
  have hys : ys = l.map Sr.id := srt_eq (hpm.trans hp) hsr hso
  subst hys
  exact xq_ret1 (.inl rfl) Try.results26 rfl ⟨p, k, l2, rfl, hO2, rfl⟩
theorem xf_keys {W : World} {L : List Blk} (mb : Nat) : XF Try.prog W 27 #[.map (some mb)] L (fun v L' => ∃ rb, v = .func (.func 41) #[] #[.pointer (some ⟨rb, 0, none⟩)] ∧ L' = (rb, Obj.cells #[.map (some mb)] 46 (0, 0)) :: L) := by
  refine xf_enter (args := [_]) Try.func27 rfl Try.ntmps27 rfl ?_
  focus
    refine xc_seq ?_
    refine xc_region ?_
    refine xo_ef rfl (ef_box rfl fun r1 => ?_)
    refine xo_rd (rd_assign rfl) rfl ?_
    refine xo_nil ?_
    refine xq_seq ?_
    refine xc_seq ?_
    refine xc_region ?_
    refine xo_rd (rd_makeFunc rfl rfl) rfl ?_
    refine xo_rd (rd_assign rfl) rfl ?_
    refine xo_nil ?_
    refine xq_seq ?_
    refine xc_ret ?_
  exact xq_ret1 (.inl rfl) Try.results27 rfl ⟨r1, rfl, rfl⟩
end Go.Proofs.Ytoolgphkfnkajaa.X
/-
  Chapter 23: sources by rising numbers: what is asked, put, told: no program in sight, no condition.
-/
namespace Go.Proofs.Ytoolgphkfnkajaa.X
open Go Go.RowKit
set_option linter.unusedVariables false
set_option linter.unusedSimpArgs false
def getS (l : List Sr) (id : Int) : Sr := (srF l id).getD ⟨id, 0, 0, 0⟩
def mayB (w : Int) (s : Sr) (now : Int) : Bool := decide (s.sent = 0) || (decide (s.last ≤ now) && decide (w ≤ now - s.last))
def askS (w now : Int) (s : Sr) : Sr := if mayB w s now = true then ⟨s.id, now, s.sent + 1, 0⟩ else ⟨s.id, s.last, s.sent, 1⟩
def putS (s : Sr) : List Sr → List Sr
  | [] => [s]
  | x :: r => if s.id < x.id then s :: x :: r else if s.id = x.id then s :: r else x :: putS s r
def askL (w : Int) (l : List Sr) (id now : Int) : List Sr := putS (askS w now (getS l id)) l
theorem getS_id (l : List Sr) (id : Int) : (getS l id).id = id := by
  unfold getS srF
  cases h : l.find? (fun s => s.id == id) with
  | none => rfl
  | some s => simpa using List.find?_some h
theorem askS_id (w now : Int) (s : Sr) : (askS w now s).id = s.id := by unfold askS; split <;> rfl
theorem srF_cons (x : Sr) (l : List Sr) (z : Int) : srF (x :: l) z = if x.id = z then some x else srF l z := by
  unfold srF
  rw [List.find?_cons]
  by_cases h : x.id = z
  · rw [if_pos h, show (x.id == z) = true by simpa using h]
  · rw [if_neg h, show (x.id == z) = false by simpa using h]
theorem srF_put (s : Sr) : ∀ (l : List Sr) (z : Int), (l.map Sr.id).Pairwise (· < ·) → srF (putS s l) z = if z = s.id then some s else srF l z
  | [], z, _ => by
    unfold putS
    rw [srF_cons]
    by_cases h : s.id = z
    · rw [if_pos h, if_pos h.symm]
    · rw [if_neg h, if_neg (fun e => h e.symm)]
  | x :: r, z, hp => by
    rw [List.map_cons, List.pairwise_cons] at hp
    unfold putS
    split
    · rw [srF_cons]
      by_cases h : s.id = z
      · rw [if_pos h, if_pos h.symm]
      · rw [if_neg h, if_neg (fun e => h e.symm)]
    · split
      · rename_i h1 h2
        rw [srF_cons, srF_cons]
        by_cases h : s.id = z
        · rw [if_pos h, if_pos h.symm]
        · rw [if_neg h, if_neg (fun e => h e.symm), if_neg (by rw [← h2]; exact h)]
      · rename_i h1 h2
        rw [srF_cons, srF_cons, srF_put s r z hp.2]
        by_cases h : x.id = z
        · rw [if_pos h, if_pos h, if_neg (by omega)]
        · rw [if_neg h, if_neg h]
theorem put_mem {s : Sr} : ∀ {l : List Sr} {y : Sr}, y ∈ putS s l → y = s ∨ y ∈ l
  | [], y, h => by unfold putS at h; simpa using h
  | x :: r, y, h => by
    unfold putS at h
    split at h
    · simpa using h
    · split at h
      · rcases List.mem_cons.1 h with h | h
        · exact .inl h
        · exact .inr (List.mem_cons_of_mem _ h)
      · rcases List.mem_cons.1 h with h | h
        · exact .inr (h ▸ List.mem_cons_self)
        · rcases put_mem h with h | h
          · exact .inl h
          · exact .inr (List.mem_cons_of_mem _ h)
theorem put_sorted {s : Sr} : ∀ {l : List Sr}, (l.map Sr.id).Pairwise (· < ·) → ((putS s l).map Sr.id).Pairwise (· < ·)
  | [], _ => by simp [putS]
  | x :: r, hp => by
    have hp2 := hp
    rw [List.map_cons, List.pairwise_cons] at hp
    unfold putS
    split
    · rename_i h
      rw [List.map_cons, List.pairwise_cons]
      refine ⟨fun z hz => ?_, hp2⟩
      rw [List.map_cons, List.mem_cons] at hz
      rcases hz with rfl | hz
      · exact h
      · have := hp.1 z hz; omega
    · split
      · rename_i h1 h2
        rw [List.map_cons, List.pairwise_cons]
        exact ⟨fun z hz => by rw [h2]; exact hp.1 z hz, hp.2⟩
      · rename_i h1 h2
        rw [List.map_cons, List.pairwise_cons]
        refine ⟨fun z hz => ?_, put_sorted hp.2⟩
        obtain ⟨y, hy, rfl⟩ := List.mem_map.1 hz
        rcases put_mem hy with rfl | hy
        · omega
        · exact hp.1 _ (List.mem_map_of_mem hy)
theorem put_len {s : Sr} : ∀ {l : List Sr}, (l.map Sr.id).Pairwise (· < ·) → (putS s l).length = if (srF l s.id).isSome = true then l.length else l.length + 1
  | [], _ => by simp [putS, srF]
  | x :: r, hp => by
    rw [List.map_cons, List.pairwise_cons] at hp
    have ih := put_len (s := s) hp.2
    have hc := srF_cons x r s.id
    unfold putS
    split
    · rename_i h
      have : (srF (x :: r) s.id).isSome = false := by
        rw [hc, if_neg (by omega)]
        cases hs : (srF r s.id).isSome with
        | false => rfl
        | true => have := hp.1 _ (srF_mem.1 hs); omega
      rw [this]; simp
    · split
      · rename_i h1 h2
        rw [hc, if_pos h2.symm]; simp
      · rename_i h1 h2
        rw [hc, if_neg (show ¬ x.id = s.id from fun e => h2 e.symm), List.length_cons, ih, List.length_cons]
        split <;> rfl
/-- What is there already is put in its place. -/
theorem put_map {s : Sr} : ∀ {l : List Sr}, (l.map Sr.id).Pairwise (· < ·) → s.id ∈ l.map Sr.id → putS s l = l.map fun x => if x.id = s.id then s else x
  | [], _, h => by cases h
  | x :: r, hp, h => by
    rw [List.map_cons, List.pairwise_cons] at hp
    unfold putS
    rw [List.map_cons, List.mem_cons] at h
    split
    · rename_i h1
      rcases h with h | h
      · omega
      · have := hp.1 _ h; omega
    · split
      · rename_i h1 h2
        rw [List.map_cons, if_pos h2.symm]
        congr 1
        symm
        rw [List.map_congr_left (g := id)]
        · simp
        · intro y hy
          have := hp.1 y.id (List.mem_map_of_mem hy)
          rw [if_neg (by omega)]; rfl
      · rename_i h1 h2
        rw [List.map_cons, if_neg (fun e => h2 e.symm)]
        rcases h with h | h
        · exact absurd h h2
        · rw [put_map hp.2 h]
theorem getS_mem {l : List Sr} {s : Sr} (hp : (l.map Sr.id).Pairwise (· < ·)) (h : s ∈ l) : getS l s.id = s := by
  unfold getS
  induction l with
  | nil => cases h
  | cons x r ih =>
    rw [List.map_cons, List.pairwise_cons] at hp
    rw [srF_cons]
    rcases List.mem_cons.1 h with rfl | h
    · rw [if_pos rfl]; rfl
    · have := hp.1 _ (List.mem_map_of_mem (f := Sr.id) h)
      rw [if_neg (by omega)]; exact ih hp.2 h
/-- Those that are on a row are asked. -/
def stepM (w now : Int) (ds : List Int) (l : List Sr) : List Sr := l.map fun s => if s.id ∈ ds then askS w now s else s
theorem stepM_ids (w now : Int) (ds : List Int) (l : List Sr) : (stepM w now ds l).map Sr.id = l.map Sr.id := by
  unfold stepM
  rw [List.map_map]
  refine List.map_congr_left fun s _ => ?_
  show (if s.id ∈ ds then askS w now s else s).id = s.id
  split
  · exact askS_id ..
  · rfl
theorem stepM_get {w now : Int} {ds : List Int} {l : List Sr} (hp : (l.map Sr.id).Pairwise (· < ·)) {s : Sr} (hs : s ∈ l) (hd : s.id ∉ ds) : getS (stepM w now ds l) s.id = s := by
  have hm : s ∈ stepM w now ds l := by
    unfold stepM
    exact List.mem_map.2 ⟨s, hs, if_neg hd⟩
  exact getS_mem (by rw [stepM_ids]; exact hp) hm
theorem stepM_ask {w now : Int} {ds : List Int} {l : List Sr} (hp : (l.map Sr.id).Pairwise (· < ·)) {s : Sr} (hs : s ∈ l) (hd : s.id ∉ ds) : askL w (stepM w now ds l) s.id now = stepM w now (ds ++ [s.id]) l := by
  unfold askL
  rw [stepM_get hp hs hd, put_map (by rw [stepM_ids]; exact hp) (by rw [stepM_ids, askS_id]; exact List.mem_map_of_mem hs)]
  unfold stepM
  rw [List.map_map]
  refine List.map_congr_left fun y hy => ?_
  show (if (if y.id ∈ ds then askS w now y else y).id = (askS w now s).id then askS w now s else (if y.id ∈ ds then askS w now y else y)) = if y.id ∈ ds ++ [s.id] then askS w now y else y
  have hyi : (if y.id ∈ ds then askS w now y else y).id = y.id := by
    split
    · exact askS_id ..
    · rfl
  rw [hyi, askS_id]
  by_cases hys : y.id = s.id
  · have : y = s := by rw [← getS_mem hp hy, ← getS_mem hp hs, hys]
    subst this
    rw [if_pos rfl, if_pos (by simp)]
  · rw [if_neg hys]
    by_cases hyd : y.id ∈ ds
    · rw [if_pos hyd, if_pos (List.mem_append_left _ hyd)]
    · rw [if_neg hyd, if_neg (by simp [hyd, hys])]
def dueS (w now : Int) (s : Sr) : Bool := decide (0 < s.wt) && mayB w s now
def tickL (w : Int) (l : List Sr) (now : Int) : List Sr := l.map fun s => if dueS w now s = true then askS w now s else s
def tickO (w : Int) (l : List Sr) (now : Int) : List Int := (l.filter (dueS w now)).map Sr.id
theorem tickL_step {w now : Int} {l : List Sr} (hp : (l.map Sr.id).Pairwise (· < ·)) : stepM w now (tickO w l now) l = tickL w l now := by
  unfold stepM tickL
  refine List.map_congr_left fun s hs => ?_
  by_cases h : dueS w now s = true
  · rw [if_pos h, if_pos]
    exact List.mem_map_of_mem (List.mem_filter.2 ⟨hs, h⟩)
  · rw [if_neg h, if_neg]
    intro hm
    obtain ⟨y, hy, he⟩ := List.mem_map.1 hm
    have hy2 := List.mem_filter.1 hy
    have : y = s := by rw [← getS_mem hp hy2.1, ← getS_mem hp hs, he]
    subst this
    exact h hy2.2
def waitL (l : List Sr) : List Int := (l.filter fun s => decide (0 < s.wt)).map Sr.id
def ansS (s : Sr) : Sr := ⟨s.id, s.last, s.sent, 0⟩
def ansL (ds : List Int) (l : List Sr) : List Sr := l.map fun s => if s.id ∈ ds ∧ 0 < s.wt then ansS s else s
def dropL (l : List Sr) (id : Int) : List Sr := l.filter fun s => !(s.id == id)
theorem filt_ids {l : List Sr} (hp : (l.map Sr.id).Pairwise (· < ·)) (ph : Sr → Bool) : (l.map Sr.id).filter (fun id => ph (getS l id)) = (l.filter ph).map Sr.id := by
  rw [List.filter_map]
  congr 1
  refine List.filter_congr fun s hs => ?_
  show ph (getS l s.id) = ph s
  rw [getS_mem hp hs]
end Go.Proofs.Ytoolgphkfnkajaa.X
/-
  Chapter 23: a requester in memory: new, may, ask, last, sent: walks of my own.
-/
namespace Go.Proofs.Ytoolgphkfnkajaa.X
open Go Go.RowKit
set_option linter.unusedVariables false
set_option linter.unusedSimpArgs false
theorem MpIs.cong {k : IntKind} {o : Obj} {f g : Int → Option Value} {s t : Nat} (h : MpIs k o f s) (hf : ∀ z, f z = g z) (hs : s = t) : MpIs k o g t := by
  obtain rfl : f = g := funext hf
  subst hs
  exact h
def big : Int := 1000000000000000
/-- What holds of a requester. -/
structure RqOk (w : Int) (mo : Obj) (l : List Sr) : Prop where
  mp : MpIs .u32 mo (srV l) l.length
  so : (l.map Sr.id).Pairwise (· < ·)
  sm : l.length ≤ 12
  id : ∀ s, s ∈ l → 0 ≤ s.id ∧ s.id ≤ 4294967295
  la : ∀ s, s ∈ l → 0 ≤ s.last ∧ s.last ≤ 18446744073709551615
  se : ∀ s, s ∈ l → 0 ≤ s.sent ∧ s.sent ≤ big
  wt : ∀ s, s ∈ l → s.wt = 0 ∨ s.wt = 1
  w : 1 ≤ w ∧ w ≤ 18446744073709551615
def rqB (w : Int) (r mb : Nat) (mo : Obj) (L : List Blk) : List Blk := (r, .cells #[.int .u64 w, .map (some mb)] 48 (0, 0)) :: (mb, mo) :: L
theorem rqB_front (w : Int) (r mb : Nat) (mo : Obj) (A L : List Blk) : (A ++ rqB w r mb mo L).Perm (rqB w r mb mo (A ++ L)) := by
  unfold rqB
  exact (List.perm_middle).trans ((List.perm_middle).cons _)
theorem rqB_sub (w : Int) (r mb : Nat) (mo : Obj) (A L : List Blk) : (rqB w r mb mo L).Sublist (rqB w r mb mo (A ++ L)) := ((List.sublist_append_right A L).cons_cons _).cons_cons _
theorem RqOk.get {w : Int} {mo : Obj} {l : List Sr} (h : RqOk w mo l) (id : Int) (hid : 0 ≤ id ∧ id ≤ 4294967295) : (0 ≤ (getS l id).last ∧ (getS l id).last ≤ 18446744073709551615) ∧ (0 ≤ (getS l id).sent ∧ (getS l id).sent ≤ big) ∧ ((getS l id).wt = 0 ∨ (getS l id).wt = 1) := by
  unfold getS
  cases hs : srF l id with
  | none => exact ⟨by show (0 : Int) ≤ 0 ∧ (0 : Int) ≤ 18446744073709551615; decide, by show (0 : Int) ≤ 0 ∧ (0 : Int) ≤ big; decide, .inl rfl⟩
  | some s =>
    have hm : s ∈ l := by unfold srF at hs; exact List.mem_of_find?_eq_some hs
    exact ⟨h.la s hm, h.se s hm, h.wt s hm⟩
theorem srV_get (l : List Sr) (id : Int) : (srV l id).getD (Value.agg (sEnc 0 0 0).toArray) = Value.agg (sEnc (getS l id).last (getS l id).sent (getS l id).wt).toArray := by
  unfold srV getS
  cases srF l id <;> rfl
/-- Something is put in its place. -/
theorem RqOk.put {w : Int} {mo mo' : Obj} {l : List Sr} {s : Sr} (h : RqOk w mo l) (hm : MpIs .u32 mo' (mupd (srV l) s.id (some s.v)) (if (srV l s.id).isSome then l.length else l.length + 1)) (h12 : (putS s l).length ≤ 12)
    (hi : 0 ≤ s.id ∧ s.id ≤ 4294967295) (hla : 0 ≤ s.last ∧ s.last ≤ 18446744073709551615) (hse : 0 ≤ s.sent ∧ s.sent ≤ big) (hwt : s.wt = 0 ∨ s.wt = 1) : RqOk w mo' (putS s l) := by
  refine ⟨hm.cong (fun z => ?_) ?_, put_sorted h.so, h12, ?_, ?_, ?_, ?_, h.w⟩
  · unfold mupd srV
    rw [srF_put s l z h.so]
    split <;> rfl
  · rw [put_len h.so]
    unfold srV
    rw [Option.isSome_map]
  all_goals
    intro y hy
    rcases put_mem hy with rfl | hy
  · exact hi
  · exact h.id y hy
  · exact hla
  · exact h.la y hy
  · exact hse
  · exact h.se y hy
  · exact hwt
  · exact h.wt y hy
theorem xf_may {W : World} {L : List Blk} (r : Nat) (s : Sr) (now w : Int) (hw : Cl W L r 0 (.int .u64 w)) (hs : 0 ≤ s.sent) (hla : 0 ≤ s.last ∧ s.last ≤ 18446744073709551615) (hn : 0 ≤ now ∧ now ≤ 18446744073709551615) (b : Bool) (hb : mayB w s now = b) :
    XF Try.prog W 20 #[.pointer (some ⟨r, 0, none⟩), .agg (sEnc s.last s.sent s.wt).toArray, .int .u64 now] L (fun v L' => v = .bool b ∧ L' = L) := by
  subst hb
  unfold mayB
  refine xf_enter (args := [_, _, _]) Try.func20 rfl Try.ntmps20 rfl ?_
  focus
    refine xc_seq ?_
    refine xc_region ?_
    refine xo_ef rfl (ef_box rfl fun r4 => ?_)
    refine xo_rd (rd_assign rfl) rfl ?_
    refine xo_nil ?_
    refine xq_seq ?_
    refine xc_seq ?_
    refine xc_drawM [0, 1, 2, 4, 8, 8, 40, 88, 136, 256, 256, 1280, 2816, 256, 8448, 16640, 33024, 69888, 131336, 262152, 1048575] [0, 1, 2, 4, 8, 8, 40, 88, 136, 256, 256, 1280, 2816, 256, 8448, 16640, 33024, 69888, 131336, 262152, 1048575] ((r4, Obj.cells (Value.agg (sEnc s.last s.sent s.wt).toArray).cells 51 (0, 0)) :: L) (by kernel_rfl) (by kernel_rfl) (by kernel_rfl) ?_
    refine xm_take 0 (m' := 1) rfl (by kernel_rfl) Sb.a (rd_fieldAddr rfl) rfl (by kernel_rfl) ?_
    refine xm_take 1 (m' := 3) rfl (by kernel_rfl) Sb.a (rd_load1 rfl (Cl.o0 rfl)) rfl (by kernel_rfl) ?_
    refine xm_take 2 (m' := 7) rfl (by kernel_rfl) Sb.a (rd_eql rfl rfl) rfl (by kernel_rfl) ?_
    refine xm_take 3 (m' := 15) rfl (by kernel_rfl) Sb.a (rd_move rfl) rfl (by kernel_rfl) ?_
    refine xm_dec 10 rfl (fun hz1 => ?_) (fun hz1 => ?_)
    refine xm_gskip 4 (m' := 31) rfl (by kernel_rfl) Sb.a rfl rfl rfl rfl (by kernel_rfl) ?_
    refine xm_gskip 5 (m' := 63) rfl (by kernel_rfl) Sb.a rfl rfl rfl rfl (by kernel_rfl) ?_
    refine xm_gskip 6 (m' := 127) rfl (by kernel_rfl) Sb.a rfl rfl rfl rfl (by kernel_rfl) ?_
    refine xm_gskip 7 (m' := 255) rfl (by kernel_rfl) Sb.a rfl rfl rfl rfl (by kernel_rfl) ?_
    refine xm_gskip 8 (m' := 511) rfl (by kernel_rfl) Sb.a rfl rfl rfl rfl (by kernel_rfl) ?_
    refine xm_gskipU 9 (m' := 1023) rfl (by kernel_rfl) Sb.a rfl rfl rfl (by kernel_rfl) ?_
    refine xm_gskipU 10 (m' := 2047) rfl (by kernel_rfl) Sb.a rfl rfl rfl (by kernel_rfl) ?_
    refine xm_gskipU 11 (m' := 4095) rfl (by kernel_rfl) Sb.a rfl rfl rfl (by kernel_rfl) ?_
    refine xm_gskipU 12 (m' := 8191) rfl (by kernel_rfl) Sb.a rfl rfl rfl (by kernel_rfl) ?_
    refine xm_gskipU 13 (m' := 16383) rfl (by kernel_rfl) Sb.a rfl rfl rfl (by kernel_rfl) ?_
    refine xm_gskipU 14 (m' := 32767) rfl (by kernel_rfl) Sb.a rfl rfl rfl (by kernel_rfl) ?_
    refine xm_gskipU 15 (m' := 65535) rfl (by kernel_rfl) Sb.a rfl rfl rfl (by kernel_rfl) ?_
    refine xm_gskipU 16 (m' := 131071) rfl (by kernel_rfl) Sb.a rfl rfl rfl (by kernel_rfl) ?_
    refine xm_gskipU 17 (m' := 262143) rfl (by kernel_rfl) Sb.a rfl rfl rfl (by kernel_rfl) ?_
    refine xm_gskip 18 (m' := 524287) rfl (by kernel_rfl) Sb.a rfl rfl rfl rfl (by kernel_rfl) ?_
    refine xm_take 19 (m' := 1048575) rfl (by kernel_rfl) Sb.a (rd_pickt rfl rfl) rfl (by kernel_rfl) ?_
    refine xm_take 20 (m' := 2097151) rfl (by kernel_rfl) Sb.a (rd_assign rfl) rfl (by kernel_rfl) ?_
    refine xm_done (by kernel_rfl) ?_
    refine xq_seq ?_
    refine xc_ret ?_
    rotate_left
    refine xm_gtake 4 (m' := 31) rfl (by kernel_rfl) Sb.a rfl rfl (rd_move rfl) rfl (by kernel_rfl) ?_
    refine xm_gtake 5 (m' := 63) rfl (by kernel_rfl) Sb.a rfl rfl (rd_fieldAddr rfl) rfl (by kernel_rfl) ?_
    refine xm_gtake 6 (m' := 127) rfl (by kernel_rfl) Sb.a rfl rfl (rd_load1 rfl (Cl.o0 rfl)) rfl (by kernel_rfl) ?_
    refine xm_gtake 7 (m' := 255) rfl (by kernel_rfl) Sb.a rfl rfl (rd_geq rfl rfl) rfl (by kernel_rfl) ?_
    refine xm_gtake 8 (m' := 511) rfl (by kernel_rfl) Sb.a rfl rfl (rd_move rfl) rfl (by kernel_rfl) ?_
    refine xm_dec 15 rfl (fun hz2 => ?_) (fun hz2 => ?_)
    refine xm_gtake 9 (m' := 1023) rfl (by kernel_rfl) Sb.a rfl rfl (rd_move rfl) rfl (by kernel_rfl) ?_
    refine xm_gtake 10 (m' := 2047) rfl (by kernel_rfl) Sb.a rfl rfl (rd_fieldAddr rfl) rfl (by kernel_rfl) ?_
    refine xm_gtake 11 (m' := 4095) rfl (by kernel_rfl) Sb.a rfl rfl (rd_load1 rfl (Cl.o0 rfl)) rfl (by kernel_rfl) ?_
    refine xm_gtake 12 (m' := 8191) rfl (by kernel_rfl) Sb.a rfl rfl (rd_subn rfl rfl (by omega) (by omega)) rfl (by kernel_rfl) ?_
    refine xm_gtake 13 (m' := 16383) rfl (by kernel_rfl) Sb.a rfl rfl (rd_move rfl) rfl (by kernel_rfl) ?_
    refine xm_gtake 14 (m' := 32767) rfl (by kernel_rfl) Sb.a rfl rfl (rd_nilCheck rfl) rfl (by kernel_rfl) ?_
    refine xm_gtake 15 (m' := 65535) rfl (by kernel_rfl) Sb.a rfl rfl (rd_fieldAddr rfl) rfl (by kernel_rfl) ?_
    refine xm_gtake 16 (m' := 131071) rfl (by kernel_rfl) Sb.a rfl rfl (rd_load1 rfl (hw.mono (by intro z hz; simp [hz]))) rfl (by kernel_rfl) ?_
    refine xm_gtake 17 (m' := 262143) rfl (by kernel_rfl) Sb.a rfl rfl (rd_geq rfl rfl) rfl (by kernel_rfl) ?_
    refine xm_gtake 18 (m' := 524287) rfl (by kernel_rfl) Sb.a rfl rfl (rd_pickt rfl rfl) rfl (by kernel_rfl) ?_
    refine xm_take 19 (m' := 1048575) rfl (by kernel_rfl) Sb.a (rd_pickf rfl rfl) rfl (by kernel_rfl) ?_
    refine xm_take 20 (m' := 2097151) rfl (by kernel_rfl) Sb.a (rd_assign rfl) rfl (by kernel_rfl) ?_
    refine xm_done (by kernel_rfl) ?_
    refine xq_seq ?_
    refine xc_ret ?_
    rotate_left
    refine xm_gskip 9 (m' := 1023) rfl (by kernel_rfl) Sb.a rfl rfl rfl rfl (by kernel_rfl) ?_
    refine xm_gskip 10 (m' := 2047) rfl (by kernel_rfl) Sb.a rfl rfl rfl rfl (by kernel_rfl) ?_
    refine xm_gskip 11 (m' := 4095) rfl (by kernel_rfl) Sb.a rfl rfl rfl rfl (by kernel_rfl) ?_
    refine xm_gskip 12 (m' := 8191) rfl (by kernel_rfl) Sb.a rfl rfl rfl rfl (by kernel_rfl) ?_
    refine xm_gskip 13 (m' := 16383) rfl (by kernel_rfl) Sb.a rfl rfl rfl rfl (by kernel_rfl) ?_
    refine xm_gskip 14 (m' := 32767) rfl (by kernel_rfl) Sb.a rfl rfl rfl rfl (by kernel_rfl) ?_
    refine xm_gskip 15 (m' := 65535) rfl (by kernel_rfl) Sb.a rfl rfl rfl rfl (by kernel_rfl) ?_
    refine xm_gskip 16 (m' := 131071) rfl (by kernel_rfl) Sb.a rfl rfl rfl rfl (by kernel_rfl) ?_
    refine xm_gskip 17 (m' := 262143) rfl (by kernel_rfl) Sb.a rfl rfl rfl rfl (by kernel_rfl) ?_
    refine xm_gtake 18 (m' := 524287) rfl (by kernel_rfl) Sb.a rfl rfl (rd_pickf rfl rfl) rfl (by kernel_rfl) ?_
    refine xm_take 19 (m' := 1048575) rfl (by kernel_rfl) Sb.a (rd_pickf rfl rfl) rfl (by kernel_rfl) ?_
    refine xm_take 20 (m' := 2097151) rfl (by kernel_rfl) Sb.a (rd_assign rfl) rfl (by kernel_rfl) ?_
    refine xm_done (by kernel_rfl) ?_
    refine xq_seq ?_
    refine xc_ret ?_
    rotate_left
  all_goals exact xq_sub (List.sublist_cons_self _ _) (xq_ret1 (.inl rfl) Try.results20 rfl ⟨by simp [*], rfl⟩)
theorem xf_New {W : World} {L : List Blk} (w : Int) (hw : 1 ≤ w ∧ w ≤ 18446744073709551615) : XF Try.prog W 7 #[.int .u64 w] L (fun v L' => ∃ r mb mo, v = .tuple #[.pointer (some ⟨r, 0, none⟩), .int .i64 0] ∧ RqOk w mo [] ∧ L' = rqB w r mb mo L) := by
  refine xf_enter (args := [_]) Try.func7 rfl Try.ntmps7 rfl ?_
  focus
    refine xc_seq ?_
    refine xc_region ?_
    refine xo_rd (rd_assign rfl) rfl ?_
    refine xo_rd (rd_assign rfl) rfl ?_
    refine xo_nil ?_
    refine xq_seq ?_
    refine xc_seq ?_
    refine xc_seq ?_
    refine xc_region ?_
    refine xo_rd (rd_move rfl) rfl ?_
    refine xo_rd (rd_eql rfl rfl) rfl ?_
    refine xo_nil ?_
    refine xq_seq ?_
    refine xc_dec rfl (fun h1 => (by exfalso; omega)) (fun h1 => ?_)
    refine xc_skip ?_
    refine xq_seq ?_
    refine xc_seq ?_
    refine xc_region ?_
    refine xo_rd (rd_move rfl) rfl ?_
    refine xo_ef rfl (ef_makeMap fun r7 => ?_)
    refine xo_rd (rd_build rfl rfl rfl) rfl ?_
    refine xo_ef rfl (ef_box rfl fun r9 => ?_)
    refine xo_rd (rd_assign rfl) rfl ?_
    refine xo_rd (rd_assign rfl) rfl ?_
    refine xo_nil ?_
    refine xq_seq ?_
    refine xc_ret ?_
  exact xq_ret2 (.inl rfl) Try.results7 rfl rfl ⟨r9, r7, _, rfl, ⟨MpIs.empty, List.Pairwise.nil, Nat.zero_le _, (fun s h => by cases h), (fun s h => by cases h), (fun s h => by cases h), (fun s h => by cases h), hw⟩, rfl⟩
theorem xf_NewE {W : World} {L : List Blk} : XF Try.prog W 7 #[.int .u64 0] L (fun v L' => v = .tuple #[.pointer none, .int .i64 2] ∧ L' = L) := by
  refine xf_enter (args := [_]) Try.func7 rfl Try.ntmps7 rfl ?_
  focus
    refine xc_seq ?_
    refine xc_region ?_
    refine xo_rd (rd_assign rfl) rfl ?_
    refine xo_rd (rd_assign rfl) rfl ?_
    refine xo_nil ?_
    refine xq_seq ?_
    refine xc_seq ?_
    refine xc_seq ?_
    refine xc_region ?_
    refine xo_rd (rd_move rfl) rfl ?_
    refine xo_rd (rd_eql rfl rfl) rfl ?_
    refine xo_nil ?_
    refine xq_seq ?_
    refine xc_condt rfl ?_
    refine xc_seq ?_
    refine xc_region ?_
    refine xo_rd (rd_assign rfl) rfl ?_
    refine xo_rd (rd_assign rfl) rfl ?_
    refine xo_nil ?_
    refine xq_seq ?_
    refine xc_ret ?_
    refine xq_then_ret ?_
  exact xq_ret2 (.inl rfl) Try.results7 rfl rfl ⟨rfl, rfl⟩
theorem askS_ok {w now : Int} {s : Sr} (hn : 0 ≤ now ∧ now ≤ 18446744073709551615) (h1 : 0 ≤ s.last ∧ s.last ≤ 18446744073709551615) (h2 : 0 ≤ s.sent ∧ s.sent < big) : (0 ≤ (askS w now s).last ∧ (askS w now s).last ≤ 18446744073709551615) ∧ (0 ≤ (askS w now s).sent ∧ (askS w now s).sent ≤ big) ∧ ((askS w now s).wt = 0 ∨ (askS w now s).wt = 1) := by
  unfold askS
  split
  · exact ⟨hn, ⟨by dsimp only; omega, by dsimp only; omega⟩, .inl rfl⟩
  · exact ⟨h1, ⟨h2.1, by dsimp only; omega⟩, .inr rfl⟩
set_option maxHeartbeats 800000 in
theorem xf_Ask {W : World} {L : List Blk} (w : Int) (r mb : Nat) (mo : Obj) (l : List Sr) (hx : RqOk w mo l) (id now : Int) (hid : 0 ≤ id ∧ id ≤ 4294967295) (hn : 0 ≤ now ∧ now ≤ 18446744073709551615) (hs : (getS l id).sent < big) (h12 : (askL w l id now).length ≤ 12) (b : Bool) (hb : mayB w (getS l id) now = b) :
    XF Try.prog W 10 #[.pointer (some ⟨r, 0, none⟩), .int .u32 id, .int .u64 now] (rqB w r mb mo L) (fun v L' => v = .bool b ∧ ∃ mo', RqOk w mo' (askL w l id now) ∧ L' = rqB w r mb mo' L) := by
  obtain ⟨g1, g2, g3⟩ := hx.get id hid
  have hgi := getS_id l id
  have hok := askS_ok (w := w) hn g1 ⟨g2.1, hs⟩
  have hput := fun mo' (h : MpIs .u32 mo' (mupd (srV l) id (some (askS w now (getS l id)).v)) (if (srV l id).isSome then l.length else l.length + 1)) => RqOk.put (mo' := mo') (s := askS w now (getS l id)) hx (by rw [askS_id, hgi]; exact h) h12 (by rw [askS_id, hgi]; exact hid) hok.1 hok.2.1 hok.2.2
  have hmp := hx.mp
  have hlk := srV_get l id
  unfold askL
  unfold askS at hput
  rw [hb] at hput
  have hl2 : putS (askS w now (getS l id)) l = putS (if b = true then ⟨(getS l id).id, now, (getS l id).sent + 1, 0⟩ else ⟨(getS l id).id, (getS l id).last, (getS l id).sent, 1⟩) l := by unfold askS; rw [hb]
  rw [hl2]
  generalize getS l id = s at *
  have hsb : s.sent < 1000000000000000 := hs
  unfold rqB
  refine xf_enter (args := [_, _, _]) Try.func10 rfl Try.ntmps10 rfl ?_
  cases b with
  | true =>
    simp only [if_true] at hput ⊢
    focus
      refine xc_seq ?_
      refine xc_region ?_
      refine xo_rd (rd_assign rfl) rfl ?_
      refine xo_nil ?_
      refine xq_seq ?_
      refine xc_seq ?_
      refine xc_seq ?_
      refine xc_region ?_
      refine xo_rd (rd_move rfl) rfl ?_
      refine xo_rd (rd_eqnil rfl) rfl ?_
      refine xo_nil ?_
      refine xq_seq ?_
      refine xc_condf rfl ?_
      refine xc_skip ?_
      refine xq_seq ?_
      refine xc_seq ?_
      refine xc_region ?_
      refine xo_rd (rd_move rfl) rfl ?_
      refine xo_rd (rd_nilCheck rfl) rfl ?_
      refine xo_rd (rd_fieldAddr rfl) rfl ?_
      refine xo_rd (rd_load1 rfl (Cl.o0 rfl)) rfl ?_
      refine xo_rd (rd_move rfl) rfl ?_
      refine xo_rd (rd_cast (v' := .agg (sEnc s.last s.sent s.wt).toArray) (rd_lookup hmp rfl rfl Kn.o1) hlk) rfl ?_
      refine xo_ef rfl (ef_alloc fun r7 => ?_)
      refine xo_ef rfl (ef_storeB [] _ rfl rfl (by first | rfl | assumption) rfl rfl rfl ?_)
      refine xo_nil ?_
      refine xq_seq ?_
      refine xc_seq ?_
      refine xc_region ?_
      refine xo_rd (rd_move rfl) rfl ?_
      refine xo_rd (rd_loadB rfl Kn.o0 (by rfl)) rfl ?_
      refine xo_rd (rd_move rfl) rfl ?_
      refine xo_ef rfl (ef_call rfl (XF.mono (xf_may r s now w (Cl.o1 rfl) g2.1 g1 hn true hb) ?_))
      rintro v L' ⟨rfl, rfl⟩
      refine xo_rd (rd_assign rfl) rfl ?_
      refine xo_nil ?_
      refine xq_seq ?_
      refine xc_seq ?_
      refine xc_seq ?_
      refine xc_region ?_
      refine xo_rd (rd_move rfl) rfl ?_
      refine xo_nil ?_
      refine xq_seq ?_
      refine xc_condt rfl ?_
      refine xc_region ?_
      refine xo_rd (rd_move rfl) rfl ?_
      refine xo_rd (rd_fieldAddr rfl) rfl ?_
      refine xo_rd (rd_load1 rfl (Cl.o0 rfl)) rfl ?_
      refine xo_rd (rd_addn rfl rfl (by omega) (by omega)) rfl ?_
      refine xo_rd (rd_cast (v' := .agg (sEnc now (s.sent + 1) 0).toArray) (rd_build (T := 51) rfl rfl rfl) (by kernel_rfl)) rfl ?_
      refine xo_ef rfl (ef_storeB [] _ rfl rfl (by first | rfl | assumption) rfl rfl rfl ?_)
      refine xo_nil ?_
      refine xq_seq ?_
      refine xc_seq ?_
      refine xc_drawM [0, 1, 2, 4, 0, 0, 63] [0, 1, 2, 4, 0, 0, 63] [] (by kernel_rfl) (by kernel_rfl) (by kernel_rfl) ?_
      refine xm_take 0 (m' := 1) rfl (by kernel_rfl) Sb.a (rd_move rfl) rfl (by kernel_rfl) ?_
      refine xm_take 1 (m' := 3) rfl (by kernel_rfl) Sb.a (rd_nilCheck rfl) rfl (by kernel_rfl) ?_
      refine xm_take 2 (m' := 7) rfl (by kernel_rfl) Sb.a (rd_fieldAddr rfl) rfl (by kernel_rfl) ?_
      refine xm_take 4 (m' := 23) rfl (by kernel_rfl) Sb.a (rd_move rfl) rfl (by kernel_rfl) ?_
      refine xm_two 3 5 (mi := 31) (mk := 55) rfl rfl (by kernel_rfl) rfl rfl (by kernel_rfl) (by kernel_rfl) (ef_rd (rd_load1 rfl (Cl.o1 rfl)) ⟨Sb.a, ?_⟩) (ef_rd (rd_loadB rfl Kn.o0 (by rfl)) ⟨Sb.a, ?_⟩)
      refine xm_one 5 (m' := 63) rfl (by kernel_rfl) rfl (by kernel_rfl) (ef_rd (rd_loadB rfl Kn.o0 (by rfl)) ?_)
      refine ⟨Sb.a, ?_⟩
      refine xm_one 6 (m' := 127) rfl (by kernel_rfl) rfl (by kernel_rfl) (ef_mapUpdate [_, _] L hmp rfl rfl rfl rfl fun mo2 hmp2 => ?_)
      refine ⟨Sb.a, ?_⟩
      refine xm_done (by kernel_rfl) ?_
      refine xq_seq ?_
      refine xc_seq ?_
      refine xc_region ?_
      refine xo_rd (rd_move rfl) rfl ?_
      refine xo_rd (rd_assign rfl) rfl ?_
      refine xo_nil ?_
      refine xq_seq ?_
      refine xc_ret ?_
      rotate_left
      refine xm_one 3 (m' := 63) rfl (by kernel_rfl) rfl (by kernel_rfl) (ef_rd (rd_load1 rfl (Cl.o1 rfl)) ?_)
      refine ⟨Sb.a, ?_⟩
      refine xm_one 6 (m' := 127) rfl (by kernel_rfl) rfl (by kernel_rfl) (ef_mapUpdate [_, _] L hmp rfl rfl rfl rfl fun mo2 hmp2 => ?_)
      refine ⟨Sb.a, ?_⟩
      refine xm_done (by kernel_rfl) ?_
      refine xq_seq ?_
      refine xc_seq ?_
      refine xc_region ?_
      refine xo_rd (rd_move rfl) rfl ?_
      refine xo_rd (rd_assign rfl) rfl ?_
      refine xo_nil ?_
      refine xq_seq ?_
      refine xc_ret ?_
      rotate_left
    all_goals exact xq_sub (List.sublist_cons_self _ _) (xq_ret1 (.inl rfl) Try.results10 rfl ⟨rfl, mo2, hput mo2 hmp2, rfl⟩)
  | false =>
    simp only [Bool.false_eq_true, if_false] at hput ⊢
    focus
      refine xc_seq ?_
      refine xc_region ?_
      refine xo_rd (rd_assign rfl) rfl ?_
      refine xo_nil ?_
      refine xq_seq ?_
      refine xc_seq ?_
      refine xc_seq ?_
      refine xc_region ?_
      refine xo_rd (rd_move rfl) rfl ?_
      refine xo_rd (rd_eqnil rfl) rfl ?_
      refine xo_nil ?_
      refine xq_seq ?_
      refine xc_condf rfl ?_
      refine xc_skip ?_
      refine xq_seq ?_
      refine xc_seq ?_
      refine xc_region ?_
      refine xo_rd (rd_move rfl) rfl ?_
      refine xo_rd (rd_nilCheck rfl) rfl ?_
      refine xo_rd (rd_fieldAddr rfl) rfl ?_
      refine xo_rd (rd_load1 rfl (Cl.o0 rfl)) rfl ?_
      refine xo_rd (rd_move rfl) rfl ?_
      refine xo_rd (rd_cast (v' := .agg (sEnc s.last s.sent s.wt).toArray) (rd_lookup hmp rfl rfl Kn.o1) hlk) rfl ?_
      refine xo_ef rfl (ef_alloc fun r7 => ?_)
      refine xo_ef rfl (ef_storeB [] _ rfl rfl (by first | rfl | assumption) rfl rfl rfl ?_)
      refine xo_nil ?_
      refine xq_seq ?_
      refine xc_seq ?_
      refine xc_region ?_
      refine xo_rd (rd_move rfl) rfl ?_
      refine xo_rd (rd_loadB rfl Kn.o0 (by rfl)) rfl ?_
      refine xo_rd (rd_move rfl) rfl ?_
      refine xo_ef rfl (ef_call rfl (XF.mono (xf_may r s now w (Cl.o1 rfl) g2.1 g1 hn false hb) ?_))
      rintro v L' ⟨rfl, rfl⟩
      refine xo_rd (rd_assign rfl) rfl ?_
      refine xo_nil ?_
      refine xq_seq ?_
      refine xc_seq ?_
      refine xc_seq ?_
      refine xc_region ?_
      refine xo_rd (rd_move rfl) rfl ?_
      refine xo_nil ?_
      refine xq_seq ?_
      refine xc_condf rfl ?_
      refine xc_region ?_
      refine xo_rd (rd_fieldAddr rfl) rfl ?_
      refine xo_ef rfl (ef_store1 [] _ rfl rfl (by first | rfl | assumption) rfl rfl rfl ?_)
      refine xo_nil ?_
      refine xq_seq ?_
      refine xc_seq ?_
      refine xc_drawM [0, 1, 2, 4, 0, 0, 63] [0, 1, 2, 4, 0, 0, 63] [] (by kernel_rfl) (by kernel_rfl) (by kernel_rfl) ?_
      refine xm_take 0 (m' := 1) rfl (by kernel_rfl) Sb.a (rd_move rfl) rfl (by kernel_rfl) ?_
      refine xm_take 1 (m' := 3) rfl (by kernel_rfl) Sb.a (rd_nilCheck rfl) rfl (by kernel_rfl) ?_
      refine xm_take 2 (m' := 7) rfl (by kernel_rfl) Sb.a (rd_fieldAddr rfl) rfl (by kernel_rfl) ?_
      refine xm_take 4 (m' := 23) rfl (by kernel_rfl) Sb.a (rd_move rfl) rfl (by kernel_rfl) ?_
      refine xm_two 3 5 (mi := 31) (mk := 55) rfl rfl (by kernel_rfl) rfl rfl (by kernel_rfl) (by kernel_rfl) (ef_rd (rd_load1 rfl (Cl.o1 rfl)) ⟨Sb.a, ?_⟩) (ef_rd (rd_loadB rfl Kn.o0 (by rfl)) ⟨Sb.a, ?_⟩)
      refine xm_one 5 (m' := 63) rfl (by kernel_rfl) rfl (by kernel_rfl) (ef_rd (rd_loadB rfl Kn.o0 (by rfl)) ?_)
      refine ⟨Sb.a, ?_⟩
      refine xm_one 6 (m' := 127) rfl (by kernel_rfl) rfl (by kernel_rfl) (ef_mapUpdate [_, _] L hmp rfl rfl rfl rfl fun mo2 hmp2 => ?_)
      refine ⟨Sb.a, ?_⟩
      refine xm_done (by kernel_rfl) ?_
      refine xq_seq ?_
      refine xc_seq ?_
      refine xc_region ?_
      refine xo_rd (rd_move rfl) rfl ?_
      refine xo_rd (rd_assign rfl) rfl ?_
      refine xo_nil ?_
      refine xq_seq ?_
      refine xc_ret ?_
      rotate_left
      refine xm_one 3 (m' := 63) rfl (by kernel_rfl) rfl (by kernel_rfl) (ef_rd (rd_load1 rfl (Cl.o1 rfl)) ?_)
      refine ⟨Sb.a, ?_⟩
      refine xm_one 6 (m' := 127) rfl (by kernel_rfl) rfl (by kernel_rfl) (ef_mapUpdate [_, _] L hmp rfl rfl rfl rfl fun mo2 hmp2 => ?_)
      refine ⟨Sb.a, ?_⟩
      refine xm_done (by kernel_rfl) ?_
      refine xq_seq ?_
      refine xc_seq ?_
      refine xc_region ?_
      refine xo_rd (rd_move rfl) rfl ?_
      refine xo_rd (rd_assign rfl) rfl ?_
      refine xo_nil ?_
      refine xq_seq ?_
      refine xc_ret ?_
      rotate_left
    all_goals exact xq_sub (List.sublist_cons_self _ _) (xq_ret1 (.inl rfl) Try.results10 rfl ⟨rfl, mo2, hput mo2 hmp2, rfl⟩)
theorem xf_Last {W : World} {L : List Blk} (w : Int) (r mb : Nat) (mo : Obj) (l : List Sr) (hx : RqOk w mo l) (id : Int) :
    XF Try.prog W 13 #[.pointer (some ⟨r, 0, none⟩), .int .u32 id] (rqB w r mb mo L) (fun v L' => v = .tuple #[.int .u64 (getS l id).last, .bool (decide (0 < (getS l id).sent))] ∧ L' = rqB w r mb mo L) := by
  have hmp := hx.mp
  have hlk := srV_get l id
  generalize getS l id = s at *
  unfold rqB
  refine xf_enter (args := [_, _]) Try.func13 rfl Try.ntmps13 rfl ?_
  focus
    refine xc_seq ?_
    refine xc_region ?_
    refine xo_rd (rd_assign rfl) rfl ?_
    refine xo_rd (rd_assign rfl) rfl ?_
    refine xo_nil ?_
    refine xq_seq ?_
    refine xc_seq ?_
    refine xc_seq ?_
    refine xc_region ?_
    refine xo_rd (rd_move rfl) rfl ?_
    refine xo_rd (rd_eqnil rfl) rfl ?_
    refine xo_nil ?_
    refine xq_seq ?_
    refine xc_condf rfl ?_
    refine xc_skip ?_
    refine xq_seq ?_
    refine xc_seq ?_
    refine xc_region ?_
    refine xo_rd (rd_move rfl) rfl ?_
    refine xo_rd (rd_nilCheck rfl) rfl ?_
    refine xo_rd (rd_fieldAddr rfl) rfl ?_
    refine xo_rd (rd_load1 rfl (Cl.o0 rfl)) rfl ?_
    refine xo_rd (rd_move rfl) rfl ?_
    refine xo_rd (rd_cast (v' := .agg (sEnc s.last s.sent s.wt).toArray) (rd_lookup hmp rfl rfl Kn.o1) hlk) rfl ?_
    refine xo_ef rfl (ef_alloc fun r6 => ?_)
    refine xo_ef rfl (ef_storeB [] _ rfl rfl (by first | rfl | assumption) rfl rfl rfl ?_)
    refine xo_nil ?_
    refine xq_seq ?_
    refine xc_seq ?_
    refine xc_drawM [0, 1, 0, 4, 8, 3, 63] [0, 1, 0, 4, 8, 3, 63] ((r6, Obj.cells (Value.agg (sEnc s.last s.sent s.wt).toArray).cells 51 (0, 0)) :: (r, .cells #[.int .u64 w, .map (some mb)] 48 (0, 0)) :: (mb, mo) :: L) (by kernel_rfl) (by kernel_rfl) (by kernel_rfl) ?_
    refine xm_take 0 (m' := 1) rfl (by kernel_rfl) Sb.a (rd_fieldAddr rfl) rfl (by kernel_rfl) ?_
    refine xm_take 1 (m' := 3) rfl (by kernel_rfl) Sb.a (rd_load1 rfl (Cl.o0 rfl)) rfl (by kernel_rfl) ?_
    refine xm_take 2 (m' := 7) rfl (by kernel_rfl) Sb.a (rd_fieldAddr rfl) rfl (by kernel_rfl) ?_
    refine xm_take 3 (m' := 15) rfl (by kernel_rfl) Sb.a (rd_load1 rfl (Cl.o0 rfl)) rfl (by kernel_rfl) ?_
    refine xm_take 4 (m' := 31) rfl (by kernel_rfl) Sb.a (rd_gtr rfl rfl) rfl (by kernel_rfl) ?_
    refine xm_take 5 (m' := 63) rfl (by kernel_rfl) Sb.a (rd_assign rfl) rfl (by kernel_rfl) ?_
    refine xm_take 6 (m' := 127) rfl (by kernel_rfl) Sb.a (rd_assign rfl) rfl (by kernel_rfl) ?_
    refine xm_done (by kernel_rfl) ?_
    refine xq_seq ?_
    refine xc_ret ?_
  all_goals exact xq_sub (List.sublist_cons_self _ _) (xq_ret2 (.inl rfl) Try.results13 rfl rfl ⟨rfl, rfl⟩)
theorem xf_Sent {W : World} {L : List Blk} (w : Int) (r mb : Nat) (mo : Obj) (l : List Sr) (hx : RqOk w mo l) (id : Int) :
    XF Try.prog W 11 #[.pointer (some ⟨r, 0, none⟩), .int .u32 id] (rqB w r mb mo L) (fun v L' => v = .int .u64 (getS l id).sent ∧ L' = rqB w r mb mo L) := by
  have hmp := hx.mp
  have hlk := srV_get l id
  generalize getS l id = s at *
  unfold rqB
  refine xf_enter (args := [_, _]) Try.func11 rfl Try.ntmps11 rfl ?_
  focus
    refine xc_seq ?_
    refine xc_region ?_
    refine xo_rd (rd_assign rfl) rfl ?_
    refine xo_nil ?_
    refine xq_seq ?_
    refine xc_seq ?_
    refine xc_seq ?_
    refine xc_region ?_
    refine xo_rd (rd_move rfl) rfl ?_
    refine xo_rd (rd_eqnil rfl) rfl ?_
    refine xo_nil ?_
    refine xq_seq ?_
    refine xc_condf rfl ?_
    refine xc_skip ?_
    refine xq_seq ?_
    refine xc_seq ?_
    refine xc_region ?_
    refine xo_rd (rd_move rfl) rfl ?_
    refine xo_rd (rd_nilCheck rfl) rfl ?_
    refine xo_rd (rd_fieldAddr rfl) rfl ?_
    refine xo_rd (rd_load1 rfl (Cl.o0 rfl)) rfl ?_
    refine xo_rd (rd_move rfl) rfl ?_
    refine xo_rd (rd_cast (v' := .agg (sEnc s.last s.sent s.wt).toArray) (rd_lookup hmp rfl rfl Kn.o1) hlk) rfl ?_
    refine xo_rd (rd_field1 rfl rfl) rfl ?_
    refine xo_rd (rd_assign rfl) rfl ?_
    refine xo_nil ?_
    refine xq_seq ?_
    refine xc_ret ?_
  exact xq_ret1 (.inl rfl) Try.results11 rfl ⟨rfl, rfl⟩
end Go.Proofs.Ytoolgphkfnkajaa.X
