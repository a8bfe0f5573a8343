/-
  Chapter 23: rows of numbers: the first of which something holds; those of which it holds are taken out: walks of my own.
-/
import Derived.Test.YtoolgphkfnkajaaX6
import Derived.Test.YtoolgphkfnkajaaX14
import Derived.Test.YtoolgphkfnkajaaX20
import Derived.Test.YtoolgphkfnkajaaX31
import Derived.Test.YtoolgphkfnkajaaX17
namespace Go.Proofs.Ytoolgphkfnkajaa.X
open Go Go.RowKit
set_option linter.unusedVariables false
set_option linter.unusedSimpArgs false
def ixP (pd : Int → Bool) (l : List Int) : Int := match l.findIdx? pd with
  | some i => i
  | none => -1
theorem ixP_some {pd : Int → Bool} {l : List Int} {k : Nat} (hk : k < l.length) (h : pd l[k] = true) (hn : ∀ (i : Nat) (h : i < l.length), i < k → pd l[i] = false) : ixP pd l = k := by
  have : l.findIdx? pd = some k := List.findIdx?_eq_some_iff_getElem.2 ⟨hk, h, fun j hj => by rw [hn j (by omega) hj]; decide⟩
  unfold ixP; rw [this]
theorem ixP_none {pd : Int → Bool} {l : List Int} (hn : ∀ (i : Nat) (h : i < l.length), pd l[i] = false) : ixP pd l = -1 := by
  have : l.findIdx? pd = none := List.findIdx?_eq_none_iff.2 fun x hx => by
    obtain ⟨i, hi, rfl⟩ := List.mem_iff_getElem.1 hx
    exact hn i hi
  unfold ixP; rw [this]
theorem ixP_neg {pd : Int → Bool} {l : List Int} (h : ixP pd l = -1) : (l.filter fun x => !pd x) = l := by
  unfold ixP at h
  cases hf : l.findIdx? pd with
  | none =>
    rw [List.filter_eq_self]
    exact fun x hx => by rw [List.findIdx?_eq_none_iff.1 hf x hx]; rfl
  | some i => rw [hf] at h; dsimp only at h; omega
theorem ixP_pos {pd : Int → Bool} {ns : List Int} (h : ¬ ixP pd ns = -1) : ∃ k : Nat, ixP pd ns = (k : Int) ∧ ∃ hk : k < ns.length, pd ns[k] = true ∧ ∀ (i : Nat) (h : i < ns.length), i < k → pd ns[i] = false := by
  unfold ixP at h ⊢
  cases hf : ns.findIdx? pd with
  | none => rw [hf] at h; exact absurd rfl h
  | some i =>
    obtain ⟨hi, h1, h2⟩ := List.findIdx?_eq_some_iff_getElem.1 hf
    exact ⟨i, rfl, hi, h1, fun j hj hji => by simpa using h2 j hji⟩
/-- Where DeleteFunc stands. -/
structure DfS where
  i : Nat
  j : Nat
  xs : List Int
  l : List Blk
theorem df_step {pd : Int → Bool} {ns : List Int} {j : Nat} (h : j < ns.length) : (ns.take (j + 1)).filter (fun x => !pd x) = (ns.take j).filter (fun x => !pd x) ++ (if (!pd ns[j]) = true then [ns[j]] else []) := by
  rw [List.take_add_one, List.getElem?_eq_getElem h, List.filter_append]
  congr 1
  simp only [Option.toList_some, List.filter_cons, List.filter_nil]
theorem df_start {pd : Int → Bool} {ns : List Int} {k : Nat} (hk : k < ns.length) (ht : pd ns[k] = true) (hn : ∀ (i : Nat) (h : i < ns.length), i < k → pd ns[i] = false) : (ns.take (k + 1)).filter (fun x => !pd x) = ns.take k := by
  rw [df_step hk, ht, List.filter_eq_self.2]
  · simp
  · intro x hx
    obtain ⟨i, hi, rfl⟩ := List.mem_iff_getElem.1 hx
    rw [List.getElem_take]
    rw [List.length_take] at hi
    rw [hn i (by omega) (by omega)]; rfl
theorem df_set {xs : List Int} {i : Nat} {x : Int} (h : i < xs.length) : (xs.set i x).take (i + 1) = xs.take i ++ [x] := by
  rw [List.take_add_one, List.getElem?_set_self h, List.take_set_of_le (Nat.le_refl _)]; rfl
theorem ints_set {k : IntKind} {xs : List Int} {i : Nat} {x : Int} : ints k (xs.set i x) = (ints k xs).set i (.int k x) := by
  unfold ints; rw [List.map_set]
theorem ixP_eq (l : List Int) (x : Int) : ixP (fun y => y == x) l = ixOf l x := rfl
theorem XF.mapK {P : Program} {W : World} {f : FuncId} {L : List Blk} {args : Array Value} {K K' : Value → List Blk → Prop} (h : XF P W f args L K) (hk : ∀ v L', K v L' → ∃ L'', L'.Perm L'' ∧ K' v L'') : XF P W f args L K' := .mk fun w hw =>
  Calls.mono (h.run w hw) fun e w' ⟨v, he, L', h1, h2⟩ => by
    obtain ⟨L'', hp, h3⟩ := hk _ _ h2
    exact ⟨v, he, L'', h1.perm hp, h3⟩
/-- A call that leaves its blocks, told of all that stand in another order. -/
theorem XF.permK {P : Program} {W : World} {f : FuncId} {L0 L1 : List Blk} {args : Array Value} {φ : Value → Prop} (hp : L0.Perm L1) (h : XF P W f args L1 (fun v L' => φ v ∧ L' = L1)) : XF P W f args L0 (fun v L' => φ v ∧ L' = L0) :=
  (h.perm hp).mapK fun v L' h1 => ⟨L0, h1.2 ▸ hp.symm, h1.1, rfl⟩
/-- slices.Index: the first place of a number. -/
theorem xf_index {W : World} {L : List Blk} (p : Option Addr) (m c : Nat) (ns : List Int) (x : Int) (hx : ns.length = m) (hr : Rs W L p (ints .u32 ns)) (hm : m ≤ 1000000000) : XF Try.prog W 30 #[.slice p m c, .int .u32 x] L (fun v L' => v = .int .i64 (ixOf ns x) ∧ L' = L) := by
  refine xf_enter (args := [_, _]) Try.func30 rfl Try.ntmps30 rfl ?_
  focus
    refine xc_seq ?_
    refine xc_region ?_
    refine xo_rd (rd_assign rfl) rfl ?_
    refine xo_nil ?_
    refine xq_seq ?_
    refine xc_seq ?_
    refine xc_seq ?_
    refine xc_region ?_
    refine xo_rd (rd_move rfl) rfl ?_
    refine xo_rd (rd_len rfl) rfl ?_
    refine xo_rd (rd_move rfl) rfl ?_
    refine xo_nil ?_
    refine xq_seq ?_
    refine xc_block ?_
  refine xc_loopI (ι := Nat) (fun k => k ≤ m ∧ ∀ i, (hi : i < k) → (h2 : i < ns.length) → ns[i] ≠ x) (fun k => m - k) (fun _ => L) (fun k => [(0, .slice p m c), (1, .int .u32 x), (7, .int .i64 m), (8, .int .i64 k)]) 0 ⟨Nat.zero_le _, fun i hi => by omega⟩ rfl (by repeat (first | exact keep_nil | refine keep_cons rfl ?_)) ?_
  rintro k ⟨hk, hno⟩
  focus
    refine xc_seq ?_
    refine xc_region ?_
    refine xo_rd (rd_lss rfl rfl) rfl ?_
    refine xo_nil ?_
    refine xq_seq ?_
    refine xc_seq ?_
    refine xc_dec rfl (fun hk1 => ?_) (fun hk1 => ?_)
    refine xc_skip ?_
    refine xq_seq ?_
    refine xc_seq ?_
    refine xc_block ?_
    refine xc_seq ?_
    refine xc_region ?_
    refine xo_rd (rd_move rfl) rfl ?_
    refine xo_rd (rd_assign rfl) rfl ?_
    refine xo_nil ?_
    refine xq_seq ?_
    refine xc_seq ?_
    refine xc_region ?_
    refine xo_rd (rd_move rfl) rfl ?_
    refine xo_rd (rd_move rfl) rfl ?_
    refine xo_rd (rd_move rfl) rfl ?_
    rotate_left
    refine xc_exit ?_
    refine xq_then_exit ?_
    refine xq_then_exit ?_
    refine xq_block_hit ?_
    refine xq_seq ?_
    refine xc_seq ?_
    refine xc_region ?_
    refine xo_rd (rd_assign rfl) rfl ?_
    refine xo_nil ?_
    refine xq_seq ?_
    refine xc_ret ?_
    rotate_left
  · obtain ⟨b, o, hp, hc⟩ := hr.int (i := k) (by omega)
    subst hp
    focus
      refine xo_rd (rd_indexAddr rfl rfl (by omega) (by omega)) rfl ?_
      refine xo_rd (rd_load1 rfl hc) rfl ?_
      refine xo_rd (rd_eql rfl rfl) rfl ?_
      refine xo_nil ?_
      refine xq_seq ?_
      refine xc_dec rfl (fun hq1 => ?_) (fun hq1 => ?_)
      refine xc_seq ?_
      refine xc_region ?_
      refine xo_rd (rd_move rfl) rfl ?_
      refine xo_rd (rd_assign rfl) rfl ?_
      refine xo_nil ?_
      refine xq_seq ?_
      refine xc_ret ?_
      refine xq_block_ret ?_
      refine xq_then_ret ?_
      refine xq_then_ret ?_
      refine xq_block_ret ?_
      refine xq_then_ret ?_
      rotate_left
      refine xc_skip ?_
      refine xq_block ?_
      refine xq_seq ?_
      refine xc_region ?_
      refine xo_rd (rd_addn rfl rfl (by omega) (by omega)) rfl ?_
      refine xo_rd (rd_move rfl) rfl ?_
      refine xo_nil ?_
      rotate_left
    · refine xq_ret1 (.inl rfl) Try.results30 rfl ⟨?_, rfl⟩
      rw [ixOf_some (k := k) (by omega) hq1.symm (fun i hi => hno i hi (by omega))]
    · refine xq_roundI (k + 1) ⟨by omega, fun i hi h2 => ?_⟩ (by omega) rfl (by repeat (first | exact keep_nil | refine keep_cons rfl ?_))
      by_cases he : i = k
      · subst he; exact fun e => hq1 e.symm
      · exact hno i (by omega) h2
  · refine xq_ret1 (.inl rfl) Try.results30 rfl ⟨?_, rfl⟩
    rw [ixOf_none (fun i hi => hno i (by omega) hi)]
theorem xf_contains {W : World} {L : List Blk} (p : Option Addr) (m c : Nat) (ns : List Int) (x : Int) (hx : ns.length = m) (hr : Rs W L p (ints .u32 ns)) (hm : m ≤ 1000000000) : XF Try.prog W 21 #[.slice p m c, .int .u32 x] L (fun v L' => v = .bool (decide (0 ≤ ixOf ns x)) ∧ L' = L) := by
  refine xf_enter (args := [_, _]) Try.func21 rfl Try.ntmps21 rfl ?_
  focus
    refine xc_seq ?_
    refine xc_region ?_
    refine xo_rd (rd_assign rfl) rfl ?_
    refine xo_nil ?_
    refine xq_seq ?_
    refine xc_seq ?_
    refine xc_region ?_
    refine xo_rd (rd_move rfl) rfl ?_
    refine xo_rd (rd_move rfl) rfl ?_
    refine xo_ef rfl (ef_call rfl (XF.mono (xf_index p m c ns x hx hr hm) ?_))
    rintro v L' ⟨rfl, rfl⟩
    refine xo_rd (rd_geq rfl rfl) rfl ?_
    refine xo_rd (rd_assign rfl) rfl ?_
    refine xo_nil ?_
    refine xq_seq ?_
    refine xc_ret ?_
    exact xq_ret1 (.inl rfl) Try.results21 rfl (⟨rfl, rfl⟩)
/-- easelkit's SameBytes (and its like): are two rows the same? -/
theorem xf_same {W : World} {L : List Blk} (p q : Option Addr) (m m' c c' : Nat) (xs ys : List Int) (hx : xs.length = m) (hy : ys.length = m') (hr : Rs W L p (ints .u32 xs)) (hs : Rs W L q (ints .u32 ys)) (hm : m ≤ 1000000000) : XF Try.prog W 17 #[.slice p m c, .slice q m' c'] L (fun v L' => v = .bool (decide (xs = ys)) ∧ L' = L) := by
  refine xf_enter (args := [_, _]) Try.func17 rfl Try.ntmps17 rfl ?_
  focus
    refine xc_seq ?_
    refine xc_region ?_
    refine xo_rd (rd_assign rfl) rfl ?_
    refine xo_nil ?_
    refine xq_seq ?_
    refine xc_seq ?_
    refine xc_seq ?_
    refine xc_region ?_
    refine xo_rd (rd_move rfl) rfl ?_
    refine xo_rd (rd_len rfl) rfl ?_
    refine xo_rd (rd_move rfl) rfl ?_
    refine xo_rd (rd_len rfl) rfl ?_
    refine xo_rd (rd_neq rfl rfl) rfl ?_
    refine xo_nil ?_
    refine xq_seq ?_
    refine xc_ndec rfl (fun h1 => ?_) (fun h1 => ?_)
    refine xc_seq ?_
    refine xc_region ?_
    refine xo_rd (rd_assign rfl) rfl ?_
    refine xo_nil ?_
    refine xq_seq ?_
    refine xc_ret ?_
    refine xq_then_ret ?_
    rotate_left
    refine xc_skip ?_
    refine xq_seq ?_
    refine xc_seq ?_
    refine xc_seq ?_
    refine xc_region ?_
    refine xo_rd (rd_assign rfl) rfl ?_
    refine xo_nil ?_
    refine xq_seq ?_
    refine xc_block ?_
    rotate_left
  · refine xq_ret1 (.inl rfl) Try.results17 rfl ⟨?_, rfl⟩
    rw [decide_eq_false (fun e => by subst e; omega)]
  · have hmm : m' = m := by omega
    subst hmm
    refine xc_loopI (ι := Nat) (fun k => k ≤ m' ∧ xs.take k = ys.take k) (fun k => m' - k) (fun _ => L) (fun k => [(0, .slice p m' c), (1, .slice q m' c'), (5, .int .i64 k)]) 0 ⟨Nat.zero_le _, by simp⟩ rfl (by repeat (first | exact keep_nil | refine keep_cons rfl ?_)) ?_
    rintro k ⟨hk, he⟩
    focus
      refine xc_seq ?_
      refine xc_seq ?_
      refine xc_region ?_
      refine xo_rd (rd_move rfl) rfl ?_
      refine xo_rd (rd_move rfl) rfl ?_
      refine xo_rd (rd_len rfl) rfl ?_
      refine xo_rd (rd_lss rfl rfl) rfl ?_
      refine xo_nil ?_
      refine xq_seq ?_
      refine xc_dec rfl (fun hk1 => ?_) (fun hk1 => ?_)
      refine xc_skip ?_
      refine xq_seq ?_
      refine xc_seq ?_
      refine xc_block ?_
      refine xc_seq ?_
      refine xc_drawML [0, 0, 3, 4, 0, 0, 48, 64, 136] [0, 0, 3, 4, 0, 0, 48, 64, 136] (by kernel_rfl) (by kernel_rfl) (by kernel_rfl) ?_
      refine xm_take 0 (m' := 1) rfl (by kernel_rfl) Sb.a (rd_move rfl) rfl (by kernel_rfl) ?_
      refine xm_take 1 (m' := 3) rfl (by kernel_rfl) Sb.a (rd_move rfl) rfl (by kernel_rfl) ?_
      refine xm_take 4 (m' := 19) rfl (by kernel_rfl) Sb.a (rd_move rfl) rfl (by kernel_rfl) ?_
      refine xm_take 5 (m' := 51) rfl (by kernel_rfl) Sb.a (rd_move rfl) rfl (by kernel_rfl) ?_
      rotate_left
      refine xc_exit ?_
      refine xq_then_exit ?_
      refine xq_then_exit ?_
      refine xq_block_hit ?_
      refine xq_seq ?_
      refine xc_seq ?_
      refine xc_region ?_
      refine xo_rd (rd_assign rfl) rfl ?_
      refine xo_nil ?_
      refine xq_seq ?_
      refine xc_ret ?_
      rotate_left
    · obtain ⟨b, o, hp, hc⟩ := hr.int (i := k) (by omega)
      obtain ⟨b', o', hp', hc'⟩ := hs.int (i := k) (by omega)
      subst hp hp'
      focus
        refine xm_take 2 (m' := 55) rfl (by kernel_rfl) Sb.a (rd_indexAddr rfl rfl (by omega) (by omega)) rfl (by kernel_rfl) ?_
        refine xm_take 3 (m' := 63) rfl (by kernel_rfl) Sb.a (rd_load1 rfl hc) rfl (by kernel_rfl) ?_
        refine xm_take 6 (m' := 127) rfl (by kernel_rfl) Sb.a (rd_indexAddr rfl rfl (by omega) (by omega)) rfl (by kernel_rfl) ?_
        refine xm_take 7 (m' := 255) rfl (by kernel_rfl) Sb.a (rd_load1 rfl hc') rfl (by kernel_rfl) ?_
        refine xm_take 8 (m' := 511) rfl (by kernel_rfl) Sb.a (rd_neq rfl rfl) rfl (by kernel_rfl) ?_
        refine xm_done (by kernel_rfl) ?_
        refine xq_seq ?_
        refine xc_ndec rfl (fun hq1 => ?_) (fun hq1 => ?_)
        refine xc_seq ?_
        refine xc_region ?_
        refine xo_rd (rd_assign rfl) rfl ?_
        refine xo_nil ?_
        refine xq_seq ?_
        refine xc_ret ?_
        refine xq_block_ret ?_
        refine xq_then_ret ?_
        refine xq_then_ret ?_
        refine xq_block_ret ?_
        refine xq_then_ret ?_
        rotate_left
        refine xc_skip ?_
        refine xq_block ?_
        refine xq_seq ?_
        refine xc_region ?_
        refine xo_rd (rd_move rfl) rfl ?_
        refine xo_rd (rd_addn rfl rfl (by omega) (by omega)) rfl ?_
        refine xo_rd (rd_assign rfl) rfl ?_
        refine xo_nil ?_
        rotate_left
      · refine xq_ret1 (.inl rfl) Try.results17 rfl ⟨?_, rfl⟩
        rw [decide_eq_false (fun e => by subst e; exact hq1 rfl)]
      · refine xq_roundI (k + 1) ⟨by omega, ?_⟩ (by omega) rfl (by repeat (first | exact keep_nil | refine keep_cons rfl ?_))
        rw [List.take_add_one, List.take_add_one, he, List.getElem?_eq_getElem (by omega), List.getElem?_eq_getElem (by omega), hq1]
    · have hkm : k = m' := by omega
      subst hkm
      refine xq_ret1 (.inl rfl) Try.results17 rfl ⟨?_, rfl⟩
      rw [List.take_of_length_le (by omega), List.take_of_length_le (by omega)] at he
      rw [decide_eq_true he]
theorem xf_sameT {W : World} {L : List Blk} (p q : Option Addr) (m m' c c' : Nat) (xs ys : List Int) (he : xs = ys) (hx : xs.length = m) (hy : ys.length = m') (hr : Rs W L p (ints .u32 xs)) (hs : Rs W L q (ints .u32 ys)) (hm : m ≤ 1000000000) : XF Try.prog W 17 #[.slice p m c, .slice q m' c'] L (fun v L' => v = .bool true ∧ L' = L) :=
  (xf_same p q m m' c c' xs ys hx hy hr hs hm).mono fun v L' h => ⟨h.1.trans (by rw [decide_eq_true he]), h.2⟩
/-- easelkit's Pick, of a small n above 0. -/
theorem xf_pick {W : World} {L : List Blk} (x n : Int) (hn : 0 < n) (hn' : n ≤ 1000) : XF Try.prog W 31 #[.int .i64 x, .int .i64 n] L (fun v L' => v = .int .i64 ((x.tmod n + n) % n) ∧ L' = L) := by
  refine xf_enter (args := [_, _]) Try.func31 rfl Try.ntmps31 rfl ?_
  have h1 := Int.tmod_lt_of_pos x hn
  have h2 := Int.lt_tmod_of_pos x hn
  focus
    refine xc_seq ?_
    refine xc_region ?_
    refine xo_rd (rd_assign rfl) rfl ?_
    refine xo_nil ?_
    refine xq_seq ?_
    refine xc_seq ?_
    refine xc_seq ?_
    refine xc_region ?_
    refine xo_rd (rd_move rfl) rfl ?_
    refine xo_rd (rd_leq rfl rfl) rfl ?_
    refine xo_nil ?_
    refine xq_seq ?_
    refine xc_dec rfl (fun h1 => (by exfalso; omega)) (fun h1 => ?_)
    refine xc_skip ?_
    refine xq_seq ?_
    refine xc_seq ?_
    refine xc_region ?_
    refine xo_rd (rd_move rfl) rfl ?_
    refine xo_rd (rd_move rfl) rfl ?_
    refine xo_rd (rd_rem rfl rfl (by omega)) rfl ?_
    refine xo_rd (rd_move rfl) rfl ?_
    refine xo_rd (rd_addn rfl rfl (by omega) (by omega)) rfl ?_
    refine xo_rd (rd_move rfl) rfl ?_
    refine xo_rd (rd_rem rfl rfl (by omega)) rfl ?_
    refine xo_rd (rd_assign rfl) rfl ?_
    refine xo_nil ?_
    refine xq_seq ?_
    refine xc_ret ?_
  refine xq_ret1 (.inl rfl) Try.results31 rfl ⟨?_, rfl⟩
  rw [Int.tmod_eq_emod_of_nonneg (by omega)]
/-- What IndexFunc tells. -/
theorem xf_ixf {W : World} {L : List Blk} (p : Option Addr) (m c : Nat) (ns : List Int) (pd : Int → Bool) (hx : ns.length = m) (hr : Rs W L p (ints .u32 ns)) (hm : m ≤ 1000000000) (q q2 : Nat) (hp : ∀ x, x ∈ ns → XF Try.prog W 29 #[.int .u32 x, .pointer (some ⟨q, 0, none⟩), .pointer (some ⟨q2, 0, none⟩)] L (fun v L' => v = .bool (pd x) ∧ L' = L)) : XF Try.prog W 42 #[.slice p m c, .func (.func 29) #[] #[.pointer (some ⟨q, 0, none⟩), .pointer (some ⟨q2, 0, none⟩)]] L (fun v L' => v = .int .i64 (ixP pd ns) ∧ L' = L) := by
  refine xf_enter (args := [_, _]) Try.func42 rfl Try.ntmps42 rfl ?_
  focus
    refine xc_seq ?_
    refine xc_region ?_
    refine xo_rd (rd_assign rfl) rfl ?_
    refine xo_nil ?_
    refine xq_seq ?_
    refine xc_seq ?_
    refine xc_seq ?_
    refine xc_region ?_
    refine xo_rd (rd_move rfl) rfl ?_
    refine xo_rd (rd_len rfl) rfl ?_
    refine xo_rd (rd_move rfl) rfl ?_
    refine xo_nil ?_
    refine xq_seq ?_
    refine xc_block ?_
  refine xc_loopK (ι := Nat) (fun k => k ≤ m ∧ ∀ (i : Nat) (h : i < ns.length), i < k → pd ns[i] = false) (fun k => m - k) (fun k => [(0, .slice p m c), (1, .func (.func 29) #[] #[.pointer (some ⟨q, 0, none⟩), .pointer (some ⟨q2, 0, none⟩)]), (7, .int .i64 m), (8, .int .i64 k)]) 0 ⟨Nat.zero_le _, fun i h hi => absurd hi (Nat.not_lt_zero _)⟩ (by repeat (first | exact keep_nil | refine keep_cons rfl ?_)) ?_
  rintro k ⟨hk, hno⟩
  by_cases hkm : k < m
  · obtain ⟨b, o, hpb, hc⟩ := hr.int (i := k) (by omega)
    subst hpb
    have hpx := hp ns[k] (List.getElem_mem _)
    obtain ⟨s, hs⟩ : ∃ s, pd ns[k] = s := ⟨_, rfl⟩
    rw [hs] at hpx
    focus
      refine xc_seq ?_
      refine xc_region ?_
      refine xo_rd (rd_lss rfl rfl) rfl ?_
      refine xo_nil ?_
      refine xq_seq ?_
      refine xc_seq ?_
      refine xc_dec rfl (fun hz1 => ?_) (fun hz1 => (by exfalso; omega))
      refine xc_skip ?_
      refine xq_seq ?_
      refine xc_seq ?_
      refine xc_block ?_
      refine xc_seq ?_
      refine xc_region ?_
      refine xo_rd (rd_move rfl) rfl ?_
      refine xo_rd (rd_assign rfl) rfl ?_
      refine xo_nil ?_
      refine xq_seq ?_
      refine xc_seq ?_
      refine xc_region ?_
      refine xo_rd (rd_move rfl) rfl ?_
      refine xo_rd (rd_move rfl) rfl ?_
      refine xo_rd (rd_move rfl) rfl ?_
      refine xo_rd (rd_indexAddr rfl rfl (by omega) (by omega)) rfl ?_
      refine xo_rd (rd_load1 rfl hc) rfl ?_
      refine xo_ef rfl (ef_callk (r := .bool s) (vs := [.int .u32 ns[k]]) (first := []) (cap := [.pointer (some ⟨q, 0, none⟩), .pointer (some ⟨q2, 0, none⟩)]) rfl rfl hpx ?_)
      refine xo_nil ?_
      refine xq_seq ?_
      refine xc_cond rfl (fun hz2 => ?_) (fun hz2 => ?_)
      refine xc_seq ?_
      refine xc_region ?_
      refine xo_rd (rd_move rfl) rfl ?_
      refine xo_rd (rd_assign rfl) rfl ?_
      refine xo_nil ?_
      refine xq_seq ?_
      refine xc_ret ?_
      refine xq_block_ret ?_
      refine xq_then_ret ?_
      refine xq_then_ret ?_
      refine xq_block_ret ?_
      refine xq_then_ret ?_
      rotate_left
      refine xc_skip ?_
      refine xq_block ?_
      refine xq_seq ?_
      refine xc_region ?_
      refine xo_rd (rd_addn rfl rfl (by omega) (by omega)) rfl ?_
      refine xo_rd (rd_move rfl) rfl ?_
      refine xo_nil ?_
      rotate_left
    · refine xq_ret1 (.inl rfl) Try.results42 rfl ⟨?_, rfl⟩
      rw [ixP_some (k := k) (by omega) (hs.trans hz2) (fun i h hi => hno i h hi)]
    · refine xq_roundK rfl (k + 1) ⟨by omega, fun i h hi => ?_⟩ (by omega) (List.Sublist.refl _) (by repeat (first | exact keep_nil | refine keep_cons rfl ?_))
      by_cases he : i = k
      · subst he; exact hs.trans hz2
      · exact hno i h (by omega)
  · skip
    focus
      refine xc_seq ?_
      refine xc_region ?_
      refine xo_rd (rd_lss rfl rfl) rfl ?_
      refine xo_nil ?_
      refine xq_seq ?_
      refine xc_seq ?_
      refine xc_dec rfl (fun h1 => (by exfalso; omega)) (fun h1 => ?_)
      refine xc_exit ?_
      refine xq_then_exit ?_
      refine xq_then_exit ?_
      refine xq_block_hit ?_
      refine xq_seq ?_
      refine xc_seq ?_
      refine xc_region ?_
      refine xo_rd (rd_assign rfl) rfl ?_
      refine xo_nil ?_
      refine xq_seq ?_
      refine xc_ret ?_
    refine xq_ret1 (.inl rfl) Try.results42 rfl ⟨?_, rfl⟩
    rw [ixP_none (fun i h => hno i h (by omega))]
/-- DeleteFunc: what is told is taken out. -/
theorem xf_delf {W : World} {R : List Blk} (p : Option Addr) (m c : Nat) (ns : List Int) (l : List Blk) (hO : SlQ 1 30 (.slice p m c) m (ints .u32 ns) l) (hx : ns.length = m) (pd : Int → Bool) (hm : m ≤ 1000000000) (q q2 : Nat) (hp : ∀ l' x, x ∈ ns → XF Try.prog W 29 #[.int .u32 x, .pointer (some ⟨q, 0, none⟩), .pointer (some ⟨q2, 0, none⟩)] (l' ++ R) (fun v L' => v = .bool (pd x) ∧ L' = l' ++ R)) : XF Try.prog W 28 #[.slice p m c, .func (.func 29) #[] #[.pointer (some ⟨q, 0, none⟩), .pointer (some ⟨q2, 0, none⟩)]] (l ++ R) (fun v L' => ∃ l', v = .slice p (ns.filter fun x => !pd x).length c ∧ SlQ 1 30 (.slice p (ns.filter fun x => !pd x).length c) (ns.filter fun x => !pd x).length (ints .u32 (ns.filter fun x => !pd x)) l' ∧ L' = l' ++ R) := by
  have hmc : m ≤ c := by obtain ⟨_, _, hv, _, h⟩ := hO.opn; simp only [Value.slice.injEq] at hv; omega
  have hix := xf_ixf (W := W) (L := l ++ R) p m c ns pd hx hO.rsl hm q q2 (hp l)
  refine xf_enter (args := [_, _]) Try.func28 rfl Try.ntmps28 rfl ?_
  by_cases hneg : ixP pd ns = -1
  · rw [hneg] at hix
    focus
      refine xc_seq ?_
      refine xc_region ?_
      refine xo_rd (rd_assign rfl) rfl ?_
      refine xo_nil ?_
      refine xq_seq ?_
      refine xc_seq ?_
      refine xc_region ?_
      refine xo_rd (rd_move rfl) rfl ?_
      refine xo_rd (rd_move rfl) rfl ?_
      refine xo_ef rfl (ef_call rfl (XF.mono (hix) ?_))
      rintro v L' ⟨rfl, rfl⟩
      refine xo_rd (rd_assign rfl) rfl ?_
      refine xo_nil ?_
      refine xq_seq ?_
      refine xc_seq ?_
      refine xc_seq ?_
      refine xc_region ?_
      refine xo_rd (rd_move rfl) rfl ?_
      refine xo_rd (rd_eql rfl rfl) rfl ?_
      refine xo_nil ?_
      refine xq_seq ?_
      refine xc_condt rfl ?_
      refine xc_seq ?_
      refine xc_region ?_
      refine xo_rd (rd_move rfl) rfl ?_
      refine xo_rd (rd_assign rfl) rfl ?_
      refine xo_nil ?_
      refine xq_seq ?_
      refine xc_ret ?_
      refine xq_then_ret ?_
    refine xq_ret1 (.inl rfl) Try.results28 rfl ?_
    have hf : (ns.filter fun x => !pd x) = ns := ixP_neg hneg
    rw [hf, hx]
    exact ⟨l, rfl, hO, rfl⟩
  obtain ⟨k0, hk0, hk0m, hkt, hkn⟩ := ixP_pos (pd := pd) (ns := ns) hneg
  rw [hk0] at hix
  focus
    refine xc_seq ?_
    refine xc_region ?_
    refine xo_rd (rd_assign rfl) rfl ?_
    refine xo_nil ?_
    refine xq_seq ?_
    refine xc_seq ?_
    refine xc_region ?_
    refine xo_rd (rd_move rfl) rfl ?_
    refine xo_rd (rd_move rfl) rfl ?_
    refine xo_ef rfl (ef_call rfl (XF.mono (hix) ?_))
    rintro v L' ⟨rfl, rfl⟩
    refine xo_rd (rd_assign rfl) rfl ?_
    refine xo_nil ?_
    refine xq_seq ?_
    refine xc_seq ?_
    refine xc_seq ?_
    refine xc_region ?_
    refine xo_rd (rd_move rfl) rfl ?_
    refine xo_rd (rd_eql rfl rfl) rfl ?_
    refine xo_nil ?_
    refine xq_seq ?_
    refine xc_condf rfl ?_
    refine xc_skip ?_
    refine xq_seq ?_
    refine xc_seq ?_
    refine xc_seq ?_
    refine xc_region ?_
    refine xo_rd (rd_move rfl) rfl ?_
    refine xo_rd (rd_addn rfl rfl (by omega) (by omega)) rfl ?_
    refine xo_rd (rd_assign rfl) rfl ?_
    refine xo_nil ?_
    refine xq_seq ?_
    refine xc_block ?_
  refine xc_loopI (ι := DfS) (fun s => s.j ≤ m ∧ s.i < s.j ∧ s.xs.length = m ∧ s.i = ((ns.take s.j).filter fun x => !pd x).length ∧ s.xs.take s.i = (ns.take s.j).filter (fun x => !pd x) ∧ s.xs.drop s.j = ns.drop s.j ∧ SlQ 1 30 (.slice p m c) m (ints .u32 s.xs) s.l) (fun s => m - s.j) (fun s => s.l ++ R) (fun s => [(0, .slice p m c), (1, .func (.func 29) #[] #[.pointer (some ⟨q, 0, none⟩), .pointer (some ⟨q2, 0, none⟩)]), (5, .int .i64 s.i), (6, .int .i64 s.j)]) ⟨k0, k0 + 1, ns, l⟩ ?_ rfl (by repeat (first | exact keep_nil | refine keep_cons rfl ?_)) ?_
  · have htk : (ns.take (k0 + 1)).filter (fun x => !pd x) = ns.take k0 := df_start (by omega) hkt hkn
    exact ⟨by dsimp only; omega, by dsimp only; omega, hx, by dsimp only; rw [htk, List.length_take]; omega, by dsimp only; rw [htk], rfl, hO⟩
  rintro ⟨i, j, xs, l1⟩ ⟨hj, hij, hxl, hi, htk, hdr, hO1⟩
  dsimp only at hj hij hxl hi htk hdr hO1 ⊢
  by_cases hjm : j < m
  · have hxj : xs[j]'(by omega) = ns[j]'(by omega) := by
      have h := congrArg (fun l => l[0]?) hdr
      simp only [List.getElem?_drop, Nat.add_zero] at h
      rw [List.getElem?_eq_getElem (by omega), List.getElem?_eq_getElem (by omega)] at h
      exact Option.some.inj h
    have hrs : Rs W (l1 ++ R) p (ints .u32 xs) := hO1.rsl
    obtain ⟨b, o, hpb, hc⟩ := hrs.int (i := j) (by omega)
    subst hpb
    have hpx := hp l1 (ns[j]'(by omega)) (List.getElem_mem _)
    rw [← hxj] at hpx
    obtain ⟨s, hs⟩ : ∃ s, pd (xs[j]'(by omega)) = s := ⟨_, rfl⟩
    rw [hs] at hpx
    have hstep := df_step (pd := pd) (ns := ns) (j := j) (by omega)
    rw [← hxj, hs] at hstep
    generalize hxv : xs[j]'(by omega) = xv at *
    focus
      refine xc_seq ?_
      refine xc_seq ?_
      refine xc_region ?_
      refine xo_rd (rd_move rfl) rfl ?_
      refine xo_rd (rd_move rfl) rfl ?_
      refine xo_rd (rd_len rfl) rfl ?_
      refine xo_rd (rd_lss rfl rfl) rfl ?_
      refine xo_nil ?_
      refine xq_seq ?_
      refine xc_dec rfl (fun hz1 => ?_) (fun hz1 => (by exfalso; omega))
      refine xc_skip ?_
      refine xq_seq ?_
      refine xc_seq ?_
      refine xc_block ?_
      refine xc_seq ?_
      refine xc_region ?_
      refine xo_rd (rd_move rfl) rfl ?_
      refine xo_rd (rd_move rfl) rfl ?_
      refine xo_rd (rd_indexAddr rfl rfl (by omega) (by omega)) rfl ?_
      refine xo_rd (rd_load1 rfl hc) rfl ?_
      refine xo_rd (rd_assign rfl) rfl ?_
      refine xo_nil ?_
      refine xq_seq ?_
      refine xc_seq ?_
      refine xc_region ?_
      refine xo_rd (rd_move rfl) rfl ?_
      refine xo_rd (rd_move rfl) rfl ?_
      refine xo_ef rfl (ef_callk (r := .bool s) (vs := [.int .u32 xv]) (first := []) (cap := [.pointer (some ⟨q, 0, none⟩), .pointer (some ⟨q2, 0, none⟩)]) rfl rfl hpx ?_)
      refine xo_rd (rd_not rfl) rfl ?_
      refine xo_nil ?_
      refine xq_seq ?_
      refine xc_cond rfl (fun hz2 => ?_) (fun hz2 => ?_)
      refine xc_seq ?_
      refine xc_region ?_
      refine xo_rd (rd_move rfl) rfl ?_
      refine xo_rd (rd_move rfl) rfl ?_
      refine xo_rd (rd_move rfl) rfl ?_
      refine xo_rd (rd_indexAddr rfl rfl (by omega) (by omega)) rfl ?_
      refine xo_ef rfl (ef_storeQ1 [] R i (v := .int .u32 xv) hO1 rfl (by omega) rfl rfl rfl (by omega) rfl fun l2 hO2 => ?_)
      refine xo_nil ?_
      refine xq_seq ?_
      refine xc_region ?_
      refine xo_rd (rd_move rfl) rfl ?_
      refine xo_rd (rd_addn rfl rfl (by omega) (by omega)) rfl ?_
      refine xo_rd (rd_assign rfl) rfl ?_
      refine xo_nil ?_
      refine xq_block ?_
      refine xq_seq ?_
      refine xc_region ?_
      refine xo_rd (rd_move rfl) rfl ?_
      refine xo_rd (rd_addn rfl rfl (by omega) (by omega)) rfl ?_
      refine xo_rd (rd_assign rfl) rfl ?_
      refine xo_nil ?_
      rotate_left
      refine xc_skip ?_
      refine xq_block ?_
      refine xq_seq ?_
      refine xc_region ?_
      refine xo_rd (rd_move rfl) rfl ?_
      refine xo_rd (rd_addn rfl rfl (by omega) (by omega)) rfl ?_
      refine xo_rd (rd_assign rfl) rfl ?_
      refine xo_nil ?_
      rotate_left
    · have hsf : s = false := by simpa using hz2
      rw [hsf] at hstep
      simp only [Bool.not_false, if_true] at hstep
      refine xq_roundI (⟨i + 1, j + 1, xs.set i xv, l2⟩ : DfS) ⟨by dsimp only; omega, by dsimp only; omega, by dsimp only; rw [List.length_set]; exact hxl, by dsimp only; rw [hstep, List.length_append, ← hi]; rfl, ?_, ?_, ?_⟩ (by dsimp only; omega) rfl (by repeat (first | exact keep_nil | refine keep_cons rfl ?_))
      · dsimp only
        rw [hstep, ← htk, df_set (by omega)]
      · dsimp only
        rw [List.drop_set, if_pos (by omega), ← List.tail_drop, ← List.tail_drop, hdr]
      · dsimp only
        rw [ints_set]; exact hO2
    · have hst : s = true := by simpa using hz2
      rw [hst] at hstep
      simp only [Bool.not_true, Bool.false_eq_true, if_false, List.append_nil] at hstep
      refine xq_roundI (⟨i, j + 1, xs, l1⟩ : DfS) ⟨by dsimp only; omega, by dsimp only; omega, hxl, by dsimp only; rw [hstep]; exact hi, by dsimp only; rw [hstep]; exact htk, ?_, hO1⟩ (by dsimp only; omega) rfl (by repeat (first | exact keep_nil | refine keep_cons rfl ?_))
      dsimp only
      rw [← List.tail_drop, ← List.tail_drop, hdr]
  · have hjm' : j = m := by omega
    subst hjm'
    have htn : ns.take j = ns := List.take_of_length_le (by omega)
    rw [htn] at hi htk
    have hpre := hO1.pre i (by omega)
    obtain ⟨b, o, hpb, _⟩ := (hO1.rsl (W := W) (R := R)) 0 (.int .u32 (xs[0]'(by omega))) (by simp [ints])
    subst hpb
    focus
      refine xc_seq ?_
      refine xc_seq ?_
      refine xc_region ?_
      refine xo_rd (rd_move rfl) rfl ?_
      refine xo_rd (rd_move rfl) rfl ?_
      refine xo_rd (rd_len rfl) rfl ?_
      refine xo_rd (rd_lss rfl rfl) rfl ?_
      refine xo_nil ?_
      refine xq_seq ?_
      refine xc_dec rfl (fun h1 => (by exfalso; omega)) (fun h1 => ?_)
      refine xc_exit ?_
      refine xq_then_exit ?_
      refine xq_then_exit ?_
      refine xq_block_hit ?_
      refine xq_seq ?_
      refine xc_seq ?_
      refine xc_region ?_
      refine xo_rd (rd_move rfl) rfl ?_
      refine xo_rd (rd_move rfl) rfl ?_
      refine xo_rd (rd_cast (v' := .slice (slp (some ⟨b, o, none⟩) c i 1) (j - i) (c - i)) (rd_slLo rfl rfl (by omega) (by omega)) (by rw [Int.toNat_natCast])) rfl ?_
      refine xo_ef rfl (ef_clearQ [] R l1 hpre rfl rfl (by omega) (by omega) (by simp [Value.cells, Value.oneCell']) fun l2 hO2 => ?_)
      refine xo_nil ?_
      refine xq_seq ?_
      refine xc_seq ?_
      refine xc_region ?_
      refine xo_rd (rd_move rfl) rfl ?_
      refine xo_rd (rd_move rfl) rfl ?_
      refine xo_rd (rd_cast (v' := .slice (some ⟨b, o, none⟩) i c) (rd_slHi rfl rfl (by omega) (by omega)) (by rw [Int.toNat_natCast])) rfl ?_
      refine xo_rd (rd_assign rfl) rfl ?_
      refine xo_nil ?_
      refine xq_seq ?_
      refine xc_ret ?_
    refine xq_ret1 (.inl rfl) Try.results28 rfl ⟨l2, by rw [hi], ?_, rfl⟩
    rw [Nat.mul_one] at hO2
    rw [← htk]
    have hlt : (xs.take i).length = i := by rw [List.length_take]; omega
    rw [hlt, ints_take]
    exact hO2
end Go.Proofs.Ytoolgphkfnkajaa.X
