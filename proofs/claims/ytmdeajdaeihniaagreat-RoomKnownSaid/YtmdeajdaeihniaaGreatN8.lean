/-
  Texts of my own, put together: walks and laws for this seat. No condition.
-/
import Derived.Test.YtmdeajdaeihniaaGreatN7
/-
  Chapter 25: rows of ids; what is known of a call, whatever order its blocks have: walks of my own.
-/
namespace Go.Proofs.YtmdeajdaeihniaaGreat.X
open Go Go.RowKit
set_option linter.unusedVariables false
set_option linter.unusedSimpArgs false
theorem XF.mapK {P : Program} {W : World} {f : FuncId} {L : List Blk} {args : Array Value} {K K' : Value → List Blk → Prop} (h : XF P W f args L K) (hk : ∀ v L', K v L' → ∃ L'', L'.Perm L'' ∧ K' v L'') : XF P W f args L K' := .mk fun w hw =>
  Calls.mono (h.run w hw) fun e w' ⟨v, he, L', h1, h2⟩ => by
    obtain ⟨L'', hp, h3⟩ := hk _ _ h2
    exact ⟨v, he, L'', h1.perm hp, h3⟩
/-- A call that leaves its blocks, told of all that stand in another order. -/
theorem XF.permK {P : Program} {W : World} {f : FuncId} {L0 L1 : List Blk} {args : Array Value} {φ : Value → Prop} (hp : L0.Perm L1) (h : XF P W f args L1 (fun v L' => φ v ∧ L' = L1)) : XF P W f args L0 (fun v L' => φ v ∧ L' = L0) :=
  (h.perm hp).mapK fun v L' h1 => ⟨L0, h1.2 ▸ hp.symm, h1.1, rfl⟩
/-- slices.Index: the first place of a number. -/
theorem xf_indexI {W : World} {L : List Blk} (p : Option Addr) (m c : Nat) (ns : List Int) (x : Int) (hx : ns.length = m) (hr : Rs W L p (ints .i64 ns)) (hm : m ≤ 1000000000) : XF Tryz.prog W 90 #[.slice p m c, .int .i64 x] L (fun v L' => v = .int .i64 (ixOf ns x) ∧ L' = L) := by
  refine xf_enter (args := [_, _]) Tryz.func90 rfl Tryz.ntmps90 rfl ?_
  focus
    refine xc_seq ?_
    refine xc_region ?_
    refine xo_rd (rd_assign rfl) rfl ?_
    refine xo_nil ?_
    refine xq_seq ?_
    refine xc_seq ?_
    refine xc_seq ?_
    refine xc_region ?_
    refine xo_rd (rd_move rfl) rfl ?_
    refine xo_rd (rd_len rfl) rfl ?_
    refine xo_rd (rd_move rfl) rfl ?_
    refine xo_nil ?_
    refine xq_seq ?_
    refine xc_block ?_
  refine xc_loopI (ι := Nat) (fun k => k ≤ m ∧ ∀ i, (hi : i < k) → (h2 : i < ns.length) → ns[i] ≠ x) (fun k => m - k) (fun _ => L) (fun k => [(0, .slice p m c), (1, .int .i64 x), (7, .int .i64 m), (8, .int .i64 k)]) 0 ⟨Nat.zero_le _, fun i hi => by omega⟩ rfl (by repeat (first | exact keep_nil | refine keep_cons rfl ?_)) ?_
  rintro k ⟨hk, hno⟩
  focus
    refine xc_seq ?_
    refine xc_region ?_
    refine xo_rd (rd_lss rfl rfl) rfl ?_
    refine xo_nil ?_
    refine xq_seq ?_
    refine xc_seq ?_
    refine xc_dec rfl (fun hk1 => ?_) (fun hk1 => ?_)
    refine xc_skip ?_
    refine xq_seq ?_
    refine xc_seq ?_
    refine xc_block ?_
    refine xc_seq ?_
    refine xc_region ?_
    refine xo_rd (rd_move rfl) rfl ?_
    refine xo_rd (rd_assign rfl) rfl ?_
    refine xo_nil ?_
    refine xq_seq ?_
    refine xc_seq ?_
    refine xc_region ?_
    refine xo_rd (rd_move rfl) rfl ?_
    refine xo_rd (rd_move rfl) rfl ?_
    refine xo_rd (rd_move rfl) rfl ?_
    rotate_left
    refine xc_exit ?_
    refine xq_then_exit ?_
    refine xq_then_exit ?_
    refine xq_block_hit ?_
    refine xq_seq ?_
    refine xc_seq ?_
    refine xc_region ?_
    refine xo_rd (rd_assign rfl) rfl ?_
    refine xo_nil ?_
    refine xq_seq ?_
    refine xc_ret ?_
    rotate_left
  · obtain ⟨b, o, hp, hc⟩ := hr.int (i := k) (by omega)
    subst hp
    focus
      refine xo_rd (rd_indexAddr rfl rfl (by omega) (by omega)) rfl ?_
      refine xo_rd (rd_load1 rfl hc) rfl ?_
      refine xo_rd (rd_eql rfl rfl) rfl ?_
      refine xo_nil ?_
      refine xq_seq ?_
      refine xc_dec rfl (fun hq1 => ?_) (fun hq1 => ?_)
      refine xc_seq ?_
      refine xc_region ?_
      refine xo_rd (rd_move rfl) rfl ?_
      refine xo_rd (rd_assign rfl) rfl ?_
      refine xo_nil ?_
      refine xq_seq ?_
      refine xc_ret ?_
      refine xq_block_ret ?_
      refine xq_then_ret ?_
      refine xq_then_ret ?_
      refine xq_block_ret ?_
      refine xq_then_ret ?_
      rotate_left
      refine xc_skip ?_
      refine xq_block ?_
      refine xq_seq ?_
      refine xc_region ?_
      refine xo_rd (rd_addn rfl rfl (by omega) (by omega)) rfl ?_
      refine xo_rd (rd_move rfl) rfl ?_
      refine xo_nil ?_
      rotate_left
    · refine xq_ret1 (.inl rfl) Tryz.results90 rfl ⟨?_, rfl⟩
      rw [ixOf_some (k := k) (by omega) hq1.symm (fun i hi => hno i hi (by omega))]
    · refine xq_roundI (k + 1) ⟨by omega, fun i hi h2 => ?_⟩ (by omega) rfl (by repeat (first | exact keep_nil | refine keep_cons rfl ?_))
      by_cases he : i = k
      · subst he; exact fun e => hq1 e.symm
      · exact hno i (by omega) h2
  · refine xq_ret1 (.inl rfl) Tryz.results90 rfl ⟨?_, rfl⟩
    rw [ixOf_none (fun i hi => hno i (by omega) hi)]
theorem xf_containsI {W : World} {L : List Blk} (p : Option Addr) (m c : Nat) (ns : List Int) (x : Int) (hx : ns.length = m) (hr : Rs W L p (ints .i64 ns)) (hm : m ≤ 1000000000) : XF Tryz.prog W 56 #[.slice p m c, .int .i64 x] L (fun v L' => v = .bool (decide (0 ≤ ixOf ns x)) ∧ L' = L) := by
  refine xf_enter (args := [_, _]) Tryz.func56 rfl Tryz.ntmps56 rfl ?_
  focus
    refine xc_seq ?_
    refine xc_region ?_
    refine xo_rd (rd_assign rfl) rfl ?_
    refine xo_nil ?_
    refine xq_seq ?_
    refine xc_seq ?_
    refine xc_region ?_
    refine xo_rd (rd_move rfl) rfl ?_
    refine xo_rd (rd_move rfl) rfl ?_
    refine xo_ef rfl (ef_call rfl (XF.mono (xf_indexI p m c ns x hx hr hm) ?_))
    rintro v L' ⟨rfl, rfl⟩
    refine xo_rd (rd_geq rfl rfl) rfl ?_
    refine xo_rd (rd_assign rfl) rfl ?_
    refine xo_nil ?_
    refine xq_seq ?_
    refine xc_ret ?_
    exact xq_ret1 (.inl rfl) Tryz.results56 rfl (⟨rfl, rfl⟩)
/-- slices.Clone: a row in new memory. -/
theorem xf_cloneI {W : World} {L : List Blk} (p : Option Addr) (m c : Nat) (xs : List Value) (hx : xs.length = m * 1) (hr : Rs W L p xs) (h1 : xs.all (·.oneCell') = true) (hm : m ≤ 1000000000) : XF Tryz.prog W 91 #[.slice p m c] L (fun v L' => ∃ q k l, v = .slice q m k ∧ SlO 1 3 (.slice q m k) m xs l ∧ m ≤ k ∧ L' = l ++ L) := by
  refine xf_enter (args := [_]) Tryz.func91 rfl Tryz.ntmps91 rfl ?_
  cases p with
  | none =>
    have h0 := hr.none_nil
    subst h0
    have hm0 : m = 0 := by simp at hx; omega
    subst hm0
    focus
      refine xc_seq ?_
      refine xc_region ?_
      refine xo_rd (rd_assign rfl) rfl ?_
      refine xo_nil ?_
      refine xq_seq ?_
      refine xc_seq ?_
      refine xc_seq ?_
      refine xc_region ?_
      refine xo_rd (rd_move rfl) rfl ?_
      refine xo_rd (rd_eqnilS rfl) rfl ?_
      refine xo_nil ?_
      refine xq_seq ?_
      refine xc_condt rfl ?_
      refine xc_seq ?_
      refine xc_region ?_
      refine xo_rd (rd_assign rfl) rfl ?_
      refine xo_nil ?_
      refine xq_seq ?_
      refine xc_ret ?_
      refine xq_then_ret ?_
    exact xq_ret1 (.inl rfl) Tryz.results91 rfl ⟨none, 0, [], rfl, SlO.nil, Nat.le_refl _, rfl⟩
  | some a =>
    focus
      refine xc_seq ?_
      refine xc_region ?_
      refine xo_rd (rd_assign rfl) rfl ?_
      refine xo_nil ?_
      refine xq_seq ?_
      refine xc_seq ?_
      refine xc_seq ?_
      refine xc_region ?_
      refine xo_rd (rd_move rfl) rfl ?_
      refine xo_rd (rd_eqnilS rfl) rfl ?_
      refine xo_nil ?_
      refine xq_seq ?_
      refine xc_condf rfl ?_
      refine xc_skip ?_
      refine xq_seq ?_
      refine xc_seq ?_
      refine xc_region ?_
      refine xo_ef rfl (ef_slice0 fun r5 => ?_)
      refine xo_rd (rd_move rfl) rfl ?_
    refine xo_ef rfl (ef_append [] L [_] rfl rfl SlO.zero rfl hr.skip hx h1 (by decide) (by omega) (by omega) fun v' l' hO => ?_)
    rw [Nat.zero_add, List.nil_append] at hO
    obtain ⟨q, k, rfl, hO, _⟩ := hO.opn
    focus
      refine xo_rd (rd_assign rfl) rfl ?_
      refine xo_nil ?_
      refine xq_seq ?_
      refine xc_ret ?_
    exact xq_ret1 (.inl rfl) Tryz.results91 rfl ⟨q, k, l', rfl, hO, hO.cap.2, rfl⟩
/-- easelkit's SameBytes (and its like): are two rows the same? -/
theorem xf_sameI {W : World} {L : List Blk} (p q : Option Addr) (m m' c c' : Nat) (xs ys : List Int) (hx : xs.length = m) (hy : ys.length = m') (hr : Rs W L p (ints .i64 xs)) (hs : Rs W L q (ints .i64 ys)) (hm : m ≤ 1000000000) : XF Tryz.prog W 22 #[.slice p m c, .slice q m' c'] L (fun v L' => v = .bool (decide (xs = ys)) ∧ L' = L) := by
  refine xf_enter (args := [_, _]) Tryz.func22 rfl Tryz.ntmps22 rfl ?_
  focus
    refine xc_seq ?_
    refine xc_region ?_
    refine xo_rd (rd_assign rfl) rfl ?_
    refine xo_nil ?_
    refine xq_seq ?_
    refine xc_seq ?_
    refine xc_seq ?_
    refine xc_region ?_
    refine xo_rd (rd_move rfl) rfl ?_
    refine xo_rd (rd_len rfl) rfl ?_
    refine xo_rd (rd_move rfl) rfl ?_
    refine xo_rd (rd_len rfl) rfl ?_
    refine xo_rd (rd_neq rfl rfl) rfl ?_
    refine xo_nil ?_
    refine xq_seq ?_
    refine xc_ndec rfl (fun h1 => ?_) (fun h1 => ?_)
    refine xc_seq ?_
    refine xc_region ?_
    refine xo_rd (rd_assign rfl) rfl ?_
    refine xo_nil ?_
    refine xq_seq ?_
    refine xc_ret ?_
    refine xq_then_ret ?_
    rotate_left
    refine xc_skip ?_
    refine xq_seq ?_
    refine xc_seq ?_
    refine xc_seq ?_
    refine xc_region ?_
    refine xo_rd (rd_assign rfl) rfl ?_
    refine xo_nil ?_
    refine xq_seq ?_
    refine xc_block ?_
    rotate_left
  · refine xq_ret1 (.inl rfl) Tryz.results22 rfl ⟨?_, rfl⟩
    rw [decide_eq_false (fun e => by subst e; omega)]
  · have hmm : m' = m := by omega
    subst hmm
    refine xc_loopI (ι := Nat) (fun k => k ≤ m' ∧ xs.take k = ys.take k) (fun k => m' - k) (fun _ => L) (fun k => [(0, .slice p m' c), (1, .slice q m' c'), (5, .int .i64 k)]) 0 ⟨Nat.zero_le _, by simp⟩ rfl (by repeat (first | exact keep_nil | refine keep_cons rfl ?_)) ?_
    rintro k ⟨hk, he⟩
    focus
      refine xc_seq ?_
      refine xc_seq ?_
      refine xc_region ?_
      refine xo_rd (rd_move rfl) rfl ?_
      refine xo_rd (rd_move rfl) rfl ?_
      refine xo_rd (rd_len rfl) rfl ?_
      refine xo_rd (rd_lss rfl rfl) rfl ?_
      refine xo_nil ?_
      refine xq_seq ?_
      refine xc_dec rfl (fun hk1 => ?_) (fun hk1 => ?_)
      refine xc_skip ?_
      refine xq_seq ?_
      refine xc_seq ?_
      refine xc_block ?_
      refine xc_seq ?_
      refine xc_drawML [0, 0, 3, 4, 0, 0, 48, 64, 136] [0, 0, 3, 4, 0, 0, 48, 64, 136] (by kernel_rfl) (by kernel_rfl) (by kernel_rfl) ?_
      refine xm_take 0 (m' := 1) rfl (by kernel_rfl) Sb.a (rd_move rfl) rfl (by kernel_rfl) ?_
      refine xm_take 1 (m' := 3) rfl (by kernel_rfl) Sb.a (rd_move rfl) rfl (by kernel_rfl) ?_
      refine xm_take 4 (m' := 19) rfl (by kernel_rfl) Sb.a (rd_move rfl) rfl (by kernel_rfl) ?_
      refine xm_take 5 (m' := 51) rfl (by kernel_rfl) Sb.a (rd_move rfl) rfl (by kernel_rfl) ?_
      rotate_left
      refine xc_exit ?_
      refine xq_then_exit ?_
      refine xq_then_exit ?_
      refine xq_block_hit ?_
      refine xq_seq ?_
      refine xc_seq ?_
      refine xc_region ?_
      refine xo_rd (rd_assign rfl) rfl ?_
      refine xo_nil ?_
      refine xq_seq ?_
      refine xc_ret ?_
      rotate_left
    · obtain ⟨b, o, hp, hc⟩ := hr.int (i := k) (by omega)
      obtain ⟨b', o', hp', hc'⟩ := hs.int (i := k) (by omega)
      subst hp hp'
      focus
        refine xm_take 2 (m' := 55) rfl (by kernel_rfl) Sb.a (rd_indexAddr rfl rfl (by omega) (by omega)) rfl (by kernel_rfl) ?_
        refine xm_take 3 (m' := 63) rfl (by kernel_rfl) Sb.a (rd_load1 rfl hc) rfl (by kernel_rfl) ?_
        refine xm_take 6 (m' := 127) rfl (by kernel_rfl) Sb.a (rd_indexAddr rfl rfl (by omega) (by omega)) rfl (by kernel_rfl) ?_
        refine xm_take 7 (m' := 255) rfl (by kernel_rfl) Sb.a (rd_load1 rfl hc') rfl (by kernel_rfl) ?_
        refine xm_take 8 (m' := 511) rfl (by kernel_rfl) Sb.a (rd_neq rfl rfl) rfl (by kernel_rfl) ?_
        refine xm_done (by kernel_rfl) ?_
        refine xq_seq ?_
        refine xc_ndec rfl (fun hq1 => ?_) (fun hq1 => ?_)
        refine xc_seq ?_
        refine xc_region ?_
        refine xo_rd (rd_assign rfl) rfl ?_
        refine xo_nil ?_
        refine xq_seq ?_
        refine xc_ret ?_
        refine xq_block_ret ?_
        refine xq_then_ret ?_
        refine xq_then_ret ?_
        refine xq_block_ret ?_
        refine xq_then_ret ?_
        rotate_left
        refine xc_skip ?_
        refine xq_block ?_
        refine xq_seq ?_
        refine xc_region ?_
        refine xo_rd (rd_move rfl) rfl ?_
        refine xo_rd (rd_addn rfl rfl (by omega) (by omega)) rfl ?_
        refine xo_rd (rd_assign rfl) rfl ?_
        refine xo_nil ?_
        rotate_left
      · refine xq_ret1 (.inl rfl) Tryz.results22 rfl ⟨?_, rfl⟩
        rw [decide_eq_false (fun e => by subst e; exact hq1 rfl)]
      · refine xq_roundI (k + 1) ⟨by omega, ?_⟩ (by omega) rfl (by repeat (first | exact keep_nil | refine keep_cons rfl ?_))
        rw [List.take_add_one, List.take_add_one, he, List.getElem?_eq_getElem (by omega), List.getElem?_eq_getElem (by omega), hq1]
    · have hkm : k = m' := by omega
      subst hkm
      refine xq_ret1 (.inl rfl) Tryz.results22 rfl ⟨?_, rfl⟩
      rw [List.take_of_length_le (by omega), List.take_of_length_le (by omega)] at he
      rw [decide_eq_true he]
/-- easelkit's Pick, of a small n above 0. -/
theorem xf_pickI {W : World} {L : List Blk} (x n : Int) (hn : 0 < n) (hn' : n ≤ 1000) : XF Tryz.prog W 27 #[.int .i64 x, .int .i64 n] L (fun v L' => v = .int .i64 ((x.tmod n + n) % n) ∧ L' = L) := by
  refine xf_enter (args := [_, _]) Tryz.func27 rfl Tryz.ntmps27 rfl ?_
  have h1 := Int.tmod_lt_of_pos x hn
  have h2 := Int.lt_tmod_of_pos x hn
  focus
    refine xc_seq ?_
    refine xc_region ?_
    refine xo_rd (rd_assign rfl) rfl ?_
    refine xo_nil ?_
    refine xq_seq ?_
    refine xc_seq ?_
    refine xc_seq ?_
    refine xc_region ?_
    refine xo_rd (rd_move rfl) rfl ?_
    refine xo_rd (rd_leq rfl rfl) rfl ?_
    refine xo_nil ?_
    refine xq_seq ?_
    refine xc_dec rfl (fun h1 => (by exfalso; omega)) (fun h1 => ?_)
    refine xc_skip ?_
    refine xq_seq ?_
    refine xc_seq ?_
    refine xc_region ?_
    refine xo_rd (rd_move rfl) rfl ?_
    refine xo_rd (rd_move rfl) rfl ?_
    refine xo_rd (rd_rem rfl rfl (by omega)) rfl ?_
    refine xo_rd (rd_move rfl) rfl ?_
    refine xo_rd (rd_addn rfl rfl (by omega) (by omega)) rfl ?_
    refine xo_rd (rd_move rfl) rfl ?_
    refine xo_rd (rd_rem rfl rfl (by omega)) rfl ?_
    refine xo_rd (rd_assign rfl) rfl ?_
    refine xo_nil ?_
    refine xq_seq ?_
    refine xc_ret ?_
  refine xq_ret1 (.inl rfl) Tryz.results27 rfl ⟨?_, rfl⟩
  rw [Int.tmod_eq_emod_of_nonneg (by omega)]
theorem xf_is51 {W : World} {L : List Blk} (x : Int) (q : Nat) (y : Int) (hq : Cl W L q 0 (.int .i64 y)) : XF Tryz.prog W 66 #[.int .i64 x, .pointer (some ⟨q, 0, none⟩)] L (fun v L' => v = .bool (decide (x = y)) ∧ L' = L) := by
  refine xf_enter (args := [_, _]) Tryz.func66 rfl Tryz.ntmps66 rfl ?_
  focus
    refine xc_seq ?_
    refine xc_region ?_
    refine xo_rd (rd_assign rfl) rfl ?_
    refine xo_nil ?_
    refine xq_seq ?_
    refine xc_seq ?_
    refine xc_region ?_
    refine xo_rd (rd_move rfl) rfl ?_
    refine xo_rd (rd_load1 rfl hq) rfl ?_
    refine xo_rd (rd_eql rfl rfl) rfl ?_
    refine xo_rd (rd_assign rfl) rfl ?_
    refine xo_nil ?_
    refine xq_seq ?_
    refine xc_ret ?_
    exact xq_ret1 (.inl rfl) Tryz.results66 rfl (⟨rfl, rfl⟩)
/-- What IndexFunc tells. -/
theorem xf_ixi51 {W : World} {L : List Blk} (p : Option Addr) (m c : Nat) (ns : List Int) (pd : Int → Bool) (hx : ns.length = m) (hr : Rs W L p (ints .i64 ns)) (hm : m ≤ 1000000000) (q : Nat) (hp : ∀ x, x ∈ ns → XF Tryz.prog W 66 #[.int .i64 x, .pointer (some ⟨q, 0, none⟩)] L (fun v L' => v = .bool (pd x) ∧ L' = L)) : XF Tryz.prog W 103 #[.slice p m c, .func (.func 66) #[] #[.pointer (some ⟨q, 0, none⟩)]] L (fun v L' => v = .int .i64 (ixP pd ns) ∧ L' = L) := by
  refine xf_enter (args := [_, _]) Tryz.func103 rfl Tryz.ntmps103 rfl ?_
  focus
    refine xc_seq ?_
    refine xc_region ?_
    refine xo_rd (rd_assign rfl) rfl ?_
    refine xo_nil ?_
    refine xq_seq ?_
    refine xc_seq ?_
    refine xc_seq ?_
    refine xc_region ?_
    refine xo_rd (rd_move rfl) rfl ?_
    refine xo_rd (rd_len rfl) rfl ?_
    refine xo_rd (rd_move rfl) rfl ?_
    refine xo_nil ?_
    refine xq_seq ?_
    refine xc_block ?_
  refine xc_loopK (ι := Nat) (fun k => k ≤ m ∧ ∀ (i : Nat) (h : i < ns.length), i < k → pd ns[i] = false) (fun k => m - k) (fun k => [(0, .slice p m c), (1, .func (.func 66) #[] #[.pointer (some ⟨q, 0, none⟩)]), (7, .int .i64 m), (8, .int .i64 k)]) 0 ⟨Nat.zero_le _, fun i h hi => absurd hi (Nat.not_lt_zero _)⟩ (by repeat (first | exact keep_nil | refine keep_cons rfl ?_)) ?_
  rintro k ⟨hk, hno⟩
  by_cases hkm : k < m
  · obtain ⟨b, o, hpb, hc⟩ := hr.int (i := k) (by omega)
    subst hpb
    have hpx := hp ns[k] (List.getElem_mem _)
    obtain ⟨s, hs⟩ : ∃ s, pd ns[k] = s := ⟨_, rfl⟩
    rw [hs] at hpx
    focus
      refine xc_seq ?_
      refine xc_region ?_
      refine xo_rd (rd_lss rfl rfl) rfl ?_
      refine xo_nil ?_
      refine xq_seq ?_
      refine xc_seq ?_
      refine xc_dec rfl (fun hz1 => ?_) (fun hz1 => (by exfalso; omega))
      refine xc_skip ?_
      refine xq_seq ?_
      refine xc_seq ?_
      refine xc_block ?_
      refine xc_seq ?_
      refine xc_region ?_
      refine xo_rd (rd_move rfl) rfl ?_
      refine xo_rd (rd_assign rfl) rfl ?_
      refine xo_nil ?_
      refine xq_seq ?_
      refine xc_seq ?_
      refine xc_region ?_
      refine xo_rd (rd_move rfl) rfl ?_
      refine xo_rd (rd_move rfl) rfl ?_
      refine xo_rd (rd_move rfl) rfl ?_
      refine xo_rd (rd_indexAddr rfl rfl (by omega) (by omega)) rfl ?_
      refine xo_rd (rd_load1 rfl hc) rfl ?_
      refine xo_ef rfl (ef_callk (r := .bool s) (vs := [.int .i64 ns[k]]) (first := []) (cap := [.pointer (some ⟨q, 0, none⟩)]) rfl rfl hpx ?_)
      refine xo_nil ?_
      refine xq_seq ?_
      refine xc_cond rfl (fun hz2 => ?_) (fun hz2 => ?_)
      refine xc_seq ?_
      refine xc_region ?_
      refine xo_rd (rd_move rfl) rfl ?_
      refine xo_rd (rd_assign rfl) rfl ?_
      refine xo_nil ?_
      refine xq_seq ?_
      refine xc_ret ?_
      refine xq_block_ret ?_
      refine xq_then_ret ?_
      refine xq_then_ret ?_
      refine xq_block_ret ?_
      refine xq_then_ret ?_
      rotate_left
      refine xc_skip ?_
      refine xq_block ?_
      refine xq_seq ?_
      refine xc_region ?_
      refine xo_rd (rd_addn rfl rfl (by omega) (by omega)) rfl ?_
      refine xo_rd (rd_move rfl) rfl ?_
      refine xo_nil ?_
      rotate_left
    · refine xq_ret1 (.inl rfl) Tryz.results103 rfl ⟨?_, rfl⟩
      rw [ixP_some (k := k) (by omega) (hs.trans hz2) (fun i h hi => hno i h hi)]
    · refine xq_roundK rfl (k + 1) ⟨by omega, fun i h hi => ?_⟩ (by omega) (List.Sublist.refl _) (by repeat (first | exact keep_nil | refine keep_cons rfl ?_))
      by_cases he : i = k
      · subst he; exact hs.trans hz2
      · exact hno i h (by omega)
  · skip
    focus
      refine xc_seq ?_
      refine xc_region ?_
      refine xo_rd (rd_lss rfl rfl) rfl ?_
      refine xo_nil ?_
      refine xq_seq ?_
      refine xc_seq ?_
      refine xc_dec rfl (fun h1 => (by exfalso; omega)) (fun h1 => ?_)
      refine xc_exit ?_
      refine xq_then_exit ?_
      refine xq_then_exit ?_
      refine xq_block_hit ?_
      refine xq_seq ?_
      refine xc_seq ?_
      refine xc_region ?_
      refine xo_rd (rd_assign rfl) rfl ?_
      refine xo_nil ?_
      refine xq_seq ?_
      refine xc_ret ?_
    refine xq_ret1 (.inl rfl) Tryz.results103 rfl ⟨?_, rfl⟩
    rw [ixP_none (fun i h => hno i h (by omega))]
/-- DeleteFunc: what is told is taken out. -/
theorem xf_deli51 {W : World} {R : List Blk} (p : Option Addr) (m c : Nat) (ns : List Int) (l : List Blk) (hO : SlQ 1 3 (.slice p m c) m (ints .i64 ns) l) (hx : ns.length = m) (pd : Int → Bool) (hm : m ≤ 1000000000) (q : Nat) (hp : ∀ l' x, x ∈ ns → XF Tryz.prog W 66 #[.int .i64 x, .pointer (some ⟨q, 0, none⟩)] (l' ++ R) (fun v L' => v = .bool (pd x) ∧ L' = l' ++ R)) : XF Tryz.prog W 65 #[.slice p m c, .func (.func 66) #[] #[.pointer (some ⟨q, 0, none⟩)]] (l ++ R) (fun v L' => ∃ l', v = .slice p (ns.filter fun x => !pd x).length c ∧ SlQ 1 3 (.slice p (ns.filter fun x => !pd x).length c) (ns.filter fun x => !pd x).length (ints .i64 (ns.filter fun x => !pd x)) l' ∧ L' = l' ++ R) := by
  have hmc : m ≤ c := by obtain ⟨_, _, hv, _, h⟩ := hO.opn; simp only [Value.slice.injEq] at hv; omega
  have hix := xf_ixi51 (W := W) (L := l ++ R) p m c ns pd hx hO.rsl hm q (hp l)
  refine xf_enter (args := [_, _]) Tryz.func65 rfl Tryz.ntmps65 rfl ?_
  by_cases hneg : ixP pd ns = -1
  · rw [hneg] at hix
    focus
      refine xc_seq ?_
      refine xc_region ?_
      refine xo_rd (rd_assign rfl) rfl ?_
      refine xo_nil ?_
      refine xq_seq ?_
      refine xc_seq ?_
      refine xc_region ?_
      refine xo_rd (rd_move rfl) rfl ?_
      refine xo_rd (rd_move rfl) rfl ?_
      refine xo_ef rfl (ef_call rfl (XF.mono (hix) ?_))
      rintro v L' ⟨rfl, rfl⟩
      refine xo_rd (rd_assign rfl) rfl ?_
      refine xo_nil ?_
      refine xq_seq ?_
      refine xc_seq ?_
      refine xc_seq ?_
      refine xc_region ?_
      refine xo_rd (rd_move rfl) rfl ?_
      refine xo_rd (rd_eql rfl rfl) rfl ?_
      refine xo_nil ?_
      refine xq_seq ?_
      refine xc_condt rfl ?_
      refine xc_seq ?_
      refine xc_region ?_
      refine xo_rd (rd_move rfl) rfl ?_
      refine xo_rd (rd_assign rfl) rfl ?_
      refine xo_nil ?_
      refine xq_seq ?_
      refine xc_ret ?_
      refine xq_then_ret ?_
    refine xq_ret1 (.inl rfl) Tryz.results65 rfl ?_
    have hf : (ns.filter fun x => !pd x) = ns := ixP_neg hneg
    rw [hf, hx]
    exact ⟨l, rfl, hO, rfl⟩
  obtain ⟨k0, hk0, hk0m, hkt, hkn⟩ := ixP_pos (pd := pd) (ns := ns) hneg
  rw [hk0] at hix
  focus
    refine xc_seq ?_
    refine xc_region ?_
    refine xo_rd (rd_assign rfl) rfl ?_
    refine xo_nil ?_
    refine xq_seq ?_
    refine xc_seq ?_
    refine xc_region ?_
    refine xo_rd (rd_move rfl) rfl ?_
    refine xo_rd (rd_move rfl) rfl ?_
    refine xo_ef rfl (ef_call rfl (XF.mono (hix) ?_))
    rintro v L' ⟨rfl, rfl⟩
    refine xo_rd (rd_assign rfl) rfl ?_
    refine xo_nil ?_
    refine xq_seq ?_
    refine xc_seq ?_
    refine xc_seq ?_
    refine xc_region ?_
    refine xo_rd (rd_move rfl) rfl ?_
    refine xo_rd (rd_eql rfl rfl) rfl ?_
    refine xo_nil ?_
    refine xq_seq ?_
    refine xc_condf rfl ?_
    refine xc_skip ?_
    refine xq_seq ?_
    refine xc_seq ?_
    refine xc_seq ?_
    refine xc_region ?_
    refine xo_rd (rd_move rfl) rfl ?_
    refine xo_rd (rd_addn rfl rfl (by omega) (by omega)) rfl ?_
    refine xo_rd (rd_assign rfl) rfl ?_
    refine xo_nil ?_
    refine xq_seq ?_
    refine xc_block ?_
  refine xc_loopI (ι := DfS) (fun s => s.j ≤ m ∧ s.i < s.j ∧ s.xs.length = m ∧ s.i = ((ns.take s.j).filter fun x => !pd x).length ∧ s.xs.take s.i = (ns.take s.j).filter (fun x => !pd x) ∧ s.xs.drop s.j = ns.drop s.j ∧ SlQ 1 3 (.slice p m c) m (ints .i64 s.xs) s.l) (fun s => m - s.j) (fun s => s.l ++ R) (fun s => [(0, .slice p m c), (1, .func (.func 66) #[] #[.pointer (some ⟨q, 0, none⟩)]), (5, .int .i64 s.i), (6, .int .i64 s.j)]) ⟨k0, k0 + 1, ns, l⟩ ?_ rfl (by repeat (first | exact keep_nil | refine keep_cons rfl ?_)) ?_
  · have htk : (ns.take (k0 + 1)).filter (fun x => !pd x) = ns.take k0 := df_start (by omega) hkt hkn
    exact ⟨by dsimp only; omega, by dsimp only; omega, hx, by dsimp only; rw [htk, List.length_take]; omega, by dsimp only; rw [htk], rfl, hO⟩
  rintro ⟨i, j, xs, l1⟩ ⟨hj, hij, hxl, hi, htk, hdr, hO1⟩
  dsimp only at hj hij hxl hi htk hdr hO1 ⊢
  by_cases hjm : j < m
  · have hxj : xs[j]'(by omega) = ns[j]'(by omega) := by
      have h := congrArg (fun l => l[0]?) hdr
      simp only [List.getElem?_drop, Nat.add_zero] at h
      rw [List.getElem?_eq_getElem (by omega), List.getElem?_eq_getElem (by omega)] at h
      exact Option.some.inj h
    have hrs : Rs W (l1 ++ R) p (ints .i64 xs) := hO1.rsl
    obtain ⟨b, o, hpb, hc⟩ := hrs.int (i := j) (by omega)
    subst hpb
    have hpx := hp l1 (ns[j]'(by omega)) (List.getElem_mem _)
    rw [← hxj] at hpx
    obtain ⟨s, hs⟩ : ∃ s, pd (xs[j]'(by omega)) = s := ⟨_, rfl⟩
    rw [hs] at hpx
    have hstep := df_step (pd := pd) (ns := ns) (j := j) (by omega)
    rw [← hxj, hs] at hstep
    generalize hxv : xs[j]'(by omega) = xv at *
    focus
      refine xc_seq ?_
      refine xc_seq ?_
      refine xc_region ?_
      refine xo_rd (rd_move rfl) rfl ?_
      refine xo_rd (rd_move rfl) rfl ?_
      refine xo_rd (rd_len rfl) rfl ?_
      refine xo_rd (rd_lss rfl rfl) rfl ?_
      refine xo_nil ?_
      refine xq_seq ?_
      refine xc_dec rfl (fun hz1 => ?_) (fun hz1 => (by exfalso; omega))
      refine xc_skip ?_
      refine xq_seq ?_
      refine xc_seq ?_
      refine xc_block ?_
      refine xc_seq ?_
      refine xc_region ?_
      refine xo_rd (rd_move rfl) rfl ?_
      refine xo_rd (rd_move rfl) rfl ?_
      refine xo_rd (rd_indexAddr rfl rfl (by omega) (by omega)) rfl ?_
      refine xo_rd (rd_load1 rfl hc) rfl ?_
      refine xo_rd (rd_assign rfl) rfl ?_
      refine xo_nil ?_
      refine xq_seq ?_
      refine xc_seq ?_
      refine xc_region ?_
      refine xo_rd (rd_move rfl) rfl ?_
      refine xo_rd (rd_move rfl) rfl ?_
      refine xo_ef rfl (ef_callk (r := .bool s) (vs := [.int .i64 xv]) (first := []) (cap := [.pointer (some ⟨q, 0, none⟩)]) rfl rfl hpx ?_)
      refine xo_rd (rd_not rfl) rfl ?_
      refine xo_nil ?_
      refine xq_seq ?_
      refine xc_cond rfl (fun hz2 => ?_) (fun hz2 => ?_)
      refine xc_seq ?_
      refine xc_region ?_
      refine xo_rd (rd_move rfl) rfl ?_
      refine xo_rd (rd_move rfl) rfl ?_
      refine xo_rd (rd_move rfl) rfl ?_
      refine xo_rd (rd_indexAddr rfl rfl (by omega) (by omega)) rfl ?_
      refine xo_ef rfl (ef_storeQ1 [] R i (v := .int .i64 xv) hO1 rfl (by omega) rfl rfl rfl (by omega) rfl fun l2 hO2 => ?_)
      refine xo_nil ?_
      refine xq_seq ?_
      refine xc_region ?_
      refine xo_rd (rd_move rfl) rfl ?_
      refine xo_rd (rd_addn rfl rfl (by omega) (by omega)) rfl ?_
      refine xo_rd (rd_assign rfl) rfl ?_
      refine xo_nil ?_
      refine xq_block ?_
      refine xq_seq ?_
      refine xc_region ?_
      refine xo_rd (rd_move rfl) rfl ?_
      refine xo_rd (rd_addn rfl rfl (by omega) (by omega)) rfl ?_
      refine xo_rd (rd_assign rfl) rfl ?_
      refine xo_nil ?_
      rotate_left
      refine xc_skip ?_
      refine xq_block ?_
      refine xq_seq ?_
      refine xc_region ?_
      refine xo_rd (rd_move rfl) rfl ?_
      refine xo_rd (rd_addn rfl rfl (by omega) (by omega)) rfl ?_
      refine xo_rd (rd_assign rfl) rfl ?_
      refine xo_nil ?_
      rotate_left
    · have hsf : s = false := by simpa using hz2
      rw [hsf] at hstep
      simp only [Bool.not_false, if_true] at hstep
      refine xq_roundI (⟨i + 1, j + 1, xs.set i xv, l2⟩ : DfS) ⟨by dsimp only; omega, by dsimp only; omega, by dsimp only; rw [List.length_set]; exact hxl, by dsimp only; rw [hstep, List.length_append, ← hi]; rfl, ?_, ?_, ?_⟩ (by dsimp only; omega) rfl (by repeat (first | exact keep_nil | refine keep_cons rfl ?_))
      · dsimp only
        rw [hstep, ← htk, df_set (by omega)]
      · dsimp only
        rw [List.drop_set, if_pos (by omega), ← List.tail_drop, ← List.tail_drop, hdr]
      · dsimp only
        rw [ints_set]; exact hO2
    · have hst : s = true := by simpa using hz2
      rw [hst] at hstep
      simp only [Bool.not_true, Bool.false_eq_true, if_false, List.append_nil] at hstep
      refine xq_roundI (⟨i, j + 1, xs, l1⟩ : DfS) ⟨by dsimp only; omega, by dsimp only; omega, hxl, by dsimp only; rw [hstep]; exact hi, by dsimp only; rw [hstep]; exact htk, ?_, hO1⟩ (by dsimp only; omega) rfl (by repeat (first | exact keep_nil | refine keep_cons rfl ?_))
      dsimp only
      rw [← List.tail_drop, ← List.tail_drop, hdr]
  · have hjm' : j = m := by omega
    subst hjm'
    have htn : ns.take j = ns := List.take_of_length_le (by omega)
    rw [htn] at hi htk
    have hpre := hO1.pre i (by omega)
    obtain ⟨b, o, hpb, _⟩ := (hO1.rsl (W := W) (R := R)) 0 (.int .i64 (xs[0]'(by omega))) (by simp [ints])
    subst hpb
    focus
      refine xc_seq ?_
      refine xc_seq ?_
      refine xc_region ?_
      refine xo_rd (rd_move rfl) rfl ?_
      refine xo_rd (rd_move rfl) rfl ?_
      refine xo_rd (rd_len rfl) rfl ?_
      refine xo_rd (rd_lss rfl rfl) rfl ?_
      refine xo_nil ?_
      refine xq_seq ?_
      refine xc_dec rfl (fun h1 => (by exfalso; omega)) (fun h1 => ?_)
      refine xc_exit ?_
      refine xq_then_exit ?_
      refine xq_then_exit ?_
      refine xq_block_hit ?_
      refine xq_seq ?_
      refine xc_seq ?_
      refine xc_region ?_
      refine xo_rd (rd_move rfl) rfl ?_
      refine xo_rd (rd_move rfl) rfl ?_
      refine xo_rd (rd_cast (v' := .slice (slp (some ⟨b, o, none⟩) c i 1) (j - i) (c - i)) (rd_slLo rfl rfl (by omega) (by omega)) (by rw [Int.toNat_natCast])) rfl ?_
      refine xo_ef rfl (ef_clearQ [] R l1 hpre rfl rfl (by omega) (by omega) (by simp [Value.cells, Value.oneCell']) fun l2 hO2 => ?_)
      refine xo_nil ?_
      refine xq_seq ?_
      refine xc_seq ?_
      refine xc_region ?_
      refine xo_rd (rd_move rfl) rfl ?_
      refine xo_rd (rd_move rfl) rfl ?_
      refine xo_rd (rd_cast (v' := .slice (some ⟨b, o, none⟩) i c) (rd_slHi rfl rfl (by omega) (by omega)) (by rw [Int.toNat_natCast])) rfl ?_
      refine xo_rd (rd_assign rfl) rfl ?_
      refine xo_nil ?_
      refine xq_seq ?_
      refine xc_ret ?_
    refine xq_ret1 (.inl rfl) Tryz.results65 rfl ⟨l2, by rw [hi], ?_, rfl⟩
    rw [Nat.mul_one] at hO2
    rw [← htk]
    have hlt : (xs.take i).length = i := by rw [List.length_take]; omega
    rw [hlt, ints_take]
    exact hO2
/-- What IndexFunc tells. -/
theorem xf_ixi58 {W : World} {L : List Blk} (p : Option Addr) (m c : Nat) (ns : List Int) (pd : Int → Bool) (hx : ns.length = m) (hr : Rs W L p (ints .i64 ns)) (hm : m ≤ 1000000000) (q q2 : Nat) (hp : ∀ x, x ∈ ns → XF Tryz.prog W 98 #[.int .i64 x, .pointer (some ⟨q, 0, none⟩), .pointer (some ⟨q2, 0, none⟩)] L (fun v L' => v = .bool (pd x) ∧ L' = L)) : XF Tryz.prog W 103 #[.slice p m c, .func (.func 98) #[] #[.pointer (some ⟨q, 0, none⟩), .pointer (some ⟨q2, 0, none⟩)]] L (fun v L' => v = .int .i64 (ixP pd ns) ∧ L' = L) := by
  refine xf_enter (args := [_, _]) Tryz.func103 rfl Tryz.ntmps103 rfl ?_
  focus
    refine xc_seq ?_
    refine xc_region ?_
    refine xo_rd (rd_assign rfl) rfl ?_
    refine xo_nil ?_
    refine xq_seq ?_
    refine xc_seq ?_
    refine xc_seq ?_
    refine xc_region ?_
    refine xo_rd (rd_move rfl) rfl ?_
    refine xo_rd (rd_len rfl) rfl ?_
    refine xo_rd (rd_move rfl) rfl ?_
    refine xo_nil ?_
    refine xq_seq ?_
    refine xc_block ?_
  refine xc_loopK (ι := Nat) (fun k => k ≤ m ∧ ∀ (i : Nat) (h : i < ns.length), i < k → pd ns[i] = false) (fun k => m - k) (fun k => [(0, .slice p m c), (1, .func (.func 98) #[] #[.pointer (some ⟨q, 0, none⟩), .pointer (some ⟨q2, 0, none⟩)]), (7, .int .i64 m), (8, .int .i64 k)]) 0 ⟨Nat.zero_le _, fun i h hi => absurd hi (Nat.not_lt_zero _)⟩ (by repeat (first | exact keep_nil | refine keep_cons rfl ?_)) ?_
  rintro k ⟨hk, hno⟩
  by_cases hkm : k < m
  · obtain ⟨b, o, hpb, hc⟩ := hr.int (i := k) (by omega)
    subst hpb
    have hpx := hp ns[k] (List.getElem_mem _)
    obtain ⟨s, hs⟩ : ∃ s, pd ns[k] = s := ⟨_, rfl⟩
    rw [hs] at hpx
    focus
      refine xc_seq ?_
      refine xc_region ?_
      refine xo_rd (rd_lss rfl rfl) rfl ?_
      refine xo_nil ?_
      refine xq_seq ?_
      refine xc_seq ?_
      refine xc_dec rfl (fun hz1 => ?_) (fun hz1 => (by exfalso; omega))
      refine xc_skip ?_
      refine xq_seq ?_
      refine xc_seq ?_
      refine xc_block ?_
      refine xc_seq ?_
      refine xc_region ?_
      refine xo_rd (rd_move rfl) rfl ?_
      refine xo_rd (rd_assign rfl) rfl ?_
      refine xo_nil ?_
      refine xq_seq ?_
      refine xc_seq ?_
      refine xc_region ?_
      refine xo_rd (rd_move rfl) rfl ?_
      refine xo_rd (rd_move rfl) rfl ?_
      refine xo_rd (rd_move rfl) rfl ?_
      refine xo_rd (rd_indexAddr rfl rfl (by omega) (by omega)) rfl ?_
      refine xo_rd (rd_load1 rfl hc) rfl ?_
      refine xo_ef rfl (ef_callk (r := .bool s) (vs := [.int .i64 ns[k]]) (first := []) (cap := [.pointer (some ⟨q, 0, none⟩), .pointer (some ⟨q2, 0, none⟩)]) rfl rfl hpx ?_)
      refine xo_nil ?_
      refine xq_seq ?_
      refine xc_cond rfl (fun hz2 => ?_) (fun hz2 => ?_)
      refine xc_seq ?_
      refine xc_region ?_
      refine xo_rd (rd_move rfl) rfl ?_
      refine xo_rd (rd_assign rfl) rfl ?_
      refine xo_nil ?_
      refine xq_seq ?_
      refine xc_ret ?_
      refine xq_block_ret ?_
      refine xq_then_ret ?_
      refine xq_then_ret ?_
      refine xq_block_ret ?_
      refine xq_then_ret ?_
      rotate_left
      refine xc_skip ?_
      refine xq_block ?_
      refine xq_seq ?_
      refine xc_region ?_
      refine xo_rd (rd_addn rfl rfl (by omega) (by omega)) rfl ?_
      refine xo_rd (rd_move rfl) rfl ?_
      refine xo_nil ?_
      rotate_left
    · refine xq_ret1 (.inl rfl) Tryz.results103 rfl ⟨?_, rfl⟩
      rw [ixP_some (k := k) (by omega) (hs.trans hz2) (fun i h hi => hno i h hi)]
    · refine xq_roundK rfl (k + 1) ⟨by omega, fun i h hi => ?_⟩ (by omega) (List.Sublist.refl _) (by repeat (first | exact keep_nil | refine keep_cons rfl ?_))
      by_cases he : i = k
      · subst he; exact hs.trans hz2
      · exact hno i h (by omega)
  · skip
    focus
      refine xc_seq ?_
      refine xc_region ?_
      refine xo_rd (rd_lss rfl rfl) rfl ?_
      refine xo_nil ?_
      refine xq_seq ?_
      refine xc_seq ?_
      refine xc_dec rfl (fun h1 => (by exfalso; omega)) (fun h1 => ?_)
      refine xc_exit ?_
      refine xq_then_exit ?_
      refine xq_then_exit ?_
      refine xq_block_hit ?_
      refine xq_seq ?_
      refine xc_seq ?_
      refine xc_region ?_
      refine xo_rd (rd_assign rfl) rfl ?_
      refine xo_nil ?_
      refine xq_seq ?_
      refine xc_ret ?_
    refine xq_ret1 (.inl rfl) Tryz.results103 rfl ⟨?_, rfl⟩
    rw [ixP_none (fun i h => hno i h (by omega))]
/-- DeleteFunc: what is told is taken out. -/
theorem xf_deli58 {W : World} {R : List Blk} (p : Option Addr) (m c : Nat) (ns : List Int) (l : List Blk) (hO : SlQ 1 3 (.slice p m c) m (ints .i64 ns) l) (hx : ns.length = m) (pd : Int → Bool) (hm : m ≤ 1000000000) (q q2 : Nat) (hp : ∀ l' x, x ∈ ns → XF Tryz.prog W 98 #[.int .i64 x, .pointer (some ⟨q, 0, none⟩), .pointer (some ⟨q2, 0, none⟩)] (l' ++ R) (fun v L' => v = .bool (pd x) ∧ L' = l' ++ R)) : XF Tryz.prog W 65 #[.slice p m c, .func (.func 98) #[] #[.pointer (some ⟨q, 0, none⟩), .pointer (some ⟨q2, 0, none⟩)]] (l ++ R) (fun v L' => ∃ l', v = .slice p (ns.filter fun x => !pd x).length c ∧ SlQ 1 3 (.slice p (ns.filter fun x => !pd x).length c) (ns.filter fun x => !pd x).length (ints .i64 (ns.filter fun x => !pd x)) l' ∧ L' = l' ++ R) := by
  have hmc : m ≤ c := by obtain ⟨_, _, hv, _, h⟩ := hO.opn; simp only [Value.slice.injEq] at hv; omega
  have hix := xf_ixi58 (W := W) (L := l ++ R) p m c ns pd hx hO.rsl hm q q2 (hp l)
  refine xf_enter (args := [_, _]) Tryz.func65 rfl Tryz.ntmps65 rfl ?_
  by_cases hneg : ixP pd ns = -1
  · rw [hneg] at hix
    focus
      refine xc_seq ?_
      refine xc_region ?_
      refine xo_rd (rd_assign rfl) rfl ?_
      refine xo_nil ?_
      refine xq_seq ?_
      refine xc_seq ?_
      refine xc_region ?_
      refine xo_rd (rd_move rfl) rfl ?_
      refine xo_rd (rd_move rfl) rfl ?_
      refine xo_ef rfl (ef_call rfl (XF.mono (hix) ?_))
      rintro v L' ⟨rfl, rfl⟩
      refine xo_rd (rd_assign rfl) rfl ?_
      refine xo_nil ?_
      refine xq_seq ?_
      refine xc_seq ?_
      refine xc_seq ?_
      refine xc_region ?_
      refine xo_rd (rd_move rfl) rfl ?_
      refine xo_rd (rd_eql rfl rfl) rfl ?_
      refine xo_nil ?_
      refine xq_seq ?_
      refine xc_condt rfl ?_
      refine xc_seq ?_
      refine xc_region ?_
      refine xo_rd (rd_move rfl) rfl ?_
      refine xo_rd (rd_assign rfl) rfl ?_
      refine xo_nil ?_
      refine xq_seq ?_
      refine xc_ret ?_
      refine xq_then_ret ?_
    refine xq_ret1 (.inl rfl) Tryz.results65 rfl ?_
    have hf : (ns.filter fun x => !pd x) = ns := ixP_neg hneg
    rw [hf, hx]
    exact ⟨l, rfl, hO, rfl⟩
  obtain ⟨k0, hk0, hk0m, hkt, hkn⟩ := ixP_pos (pd := pd) (ns := ns) hneg
  rw [hk0] at hix
  focus
    refine xc_seq ?_
    refine xc_region ?_
    refine xo_rd (rd_assign rfl) rfl ?_
    refine xo_nil ?_
    refine xq_seq ?_
    refine xc_seq ?_
    refine xc_region ?_
    refine xo_rd (rd_move rfl) rfl ?_
    refine xo_rd (rd_move rfl) rfl ?_
    refine xo_ef rfl (ef_call rfl (XF.mono (hix) ?_))
    rintro v L' ⟨rfl, rfl⟩
    refine xo_rd (rd_assign rfl) rfl ?_
    refine xo_nil ?_
    refine xq_seq ?_
    refine xc_seq ?_
    refine xc_seq ?_
    refine xc_region ?_
    refine xo_rd (rd_move rfl) rfl ?_
    refine xo_rd (rd_eql rfl rfl) rfl ?_
    refine xo_nil ?_
    refine xq_seq ?_
    refine xc_condf rfl ?_
    refine xc_skip ?_
    refine xq_seq ?_
    refine xc_seq ?_
    refine xc_seq ?_
    refine xc_region ?_
    refine xo_rd (rd_move rfl) rfl ?_
    refine xo_rd (rd_addn rfl rfl (by omega) (by omega)) rfl ?_
    refine xo_rd (rd_assign rfl) rfl ?_
    refine xo_nil ?_
    refine xq_seq ?_
    refine xc_block ?_
  refine xc_loopI (ι := DfS) (fun s => s.j ≤ m ∧ s.i < s.j ∧ s.xs.length = m ∧ s.i = ((ns.take s.j).filter fun x => !pd x).length ∧ s.xs.take s.i = (ns.take s.j).filter (fun x => !pd x) ∧ s.xs.drop s.j = ns.drop s.j ∧ SlQ 1 3 (.slice p m c) m (ints .i64 s.xs) s.l) (fun s => m - s.j) (fun s => s.l ++ R) (fun s => [(0, .slice p m c), (1, .func (.func 98) #[] #[.pointer (some ⟨q, 0, none⟩), .pointer (some ⟨q2, 0, none⟩)]), (5, .int .i64 s.i), (6, .int .i64 s.j)]) ⟨k0, k0 + 1, ns, l⟩ ?_ rfl (by repeat (first | exact keep_nil | refine keep_cons rfl ?_)) ?_
  · have htk : (ns.take (k0 + 1)).filter (fun x => !pd x) = ns.take k0 := df_start (by omega) hkt hkn
    exact ⟨by dsimp only; omega, by dsimp only; omega, hx, by dsimp only; rw [htk, List.length_take]; omega, by dsimp only; rw [htk], rfl, hO⟩
  rintro ⟨i, j, xs, l1⟩ ⟨hj, hij, hxl, hi, htk, hdr, hO1⟩
  dsimp only at hj hij hxl hi htk hdr hO1 ⊢
  by_cases hjm : j < m
  · have hxj : xs[j]'(by omega) = ns[j]'(by omega) := by
      have h := congrArg (fun l => l[0]?) hdr
      simp only [List.getElem?_drop, Nat.add_zero] at h
      rw [List.getElem?_eq_getElem (by omega), List.getElem?_eq_getElem (by omega)] at h
      exact Option.some.inj h
    have hrs : Rs W (l1 ++ R) p (ints .i64 xs) := hO1.rsl
    obtain ⟨b, o, hpb, hc⟩ := hrs.int (i := j) (by omega)
    subst hpb
    have hpx := hp l1 (ns[j]'(by omega)) (List.getElem_mem _)
    rw [← hxj] at hpx
    obtain ⟨s, hs⟩ : ∃ s, pd (xs[j]'(by omega)) = s := ⟨_, rfl⟩
    rw [hs] at hpx
    have hstep := df_step (pd := pd) (ns := ns) (j := j) (by omega)
    rw [← hxj, hs] at hstep
    generalize hxv : xs[j]'(by omega) = xv at *
    focus
      refine xc_seq ?_
      refine xc_seq ?_
      refine xc_region ?_
      refine xo_rd (rd_move rfl) rfl ?_
      refine xo_rd (rd_move rfl) rfl ?_
      refine xo_rd (rd_len rfl) rfl ?_
      refine xo_rd (rd_lss rfl rfl) rfl ?_
      refine xo_nil ?_
      refine xq_seq ?_
      refine xc_dec rfl (fun hz1 => ?_) (fun hz1 => (by exfalso; omega))
      refine xc_skip ?_
      refine xq_seq ?_
      refine xc_seq ?_
      refine xc_block ?_
      refine xc_seq ?_
      refine xc_region ?_
      refine xo_rd (rd_move rfl) rfl ?_
      refine xo_rd (rd_move rfl) rfl ?_
      refine xo_rd (rd_indexAddr rfl rfl (by omega) (by omega)) rfl ?_
      refine xo_rd (rd_load1 rfl hc) rfl ?_
      refine xo_rd (rd_assign rfl) rfl ?_
      refine xo_nil ?_
      refine xq_seq ?_
      refine xc_seq ?_
      refine xc_region ?_
      refine xo_rd (rd_move rfl) rfl ?_
      refine xo_rd (rd_move rfl) rfl ?_
      refine xo_ef rfl (ef_callk (r := .bool s) (vs := [.int .i64 xv]) (first := []) (cap := [.pointer (some ⟨q, 0, none⟩), .pointer (some ⟨q2, 0, none⟩)]) rfl rfl hpx ?_)
      refine xo_rd (rd_not rfl) rfl ?_
      refine xo_nil ?_
      refine xq_seq ?_
      refine xc_cond rfl (fun hz2 => ?_) (fun hz2 => ?_)
      refine xc_seq ?_
      refine xc_region ?_
      refine xo_rd (rd_move rfl) rfl ?_
      refine xo_rd (rd_move rfl) rfl ?_
      refine xo_rd (rd_move rfl) rfl ?_
      refine xo_rd (rd_indexAddr rfl rfl (by omega) (by omega)) rfl ?_
      refine xo_ef rfl (ef_storeQ1 [] R i (v := .int .i64 xv) hO1 rfl (by omega) rfl rfl rfl (by omega) rfl fun l2 hO2 => ?_)
      refine xo_nil ?_
      refine xq_seq ?_
      refine xc_region ?_
      refine xo_rd (rd_move rfl) rfl ?_
      refine xo_rd (rd_addn rfl rfl (by omega) (by omega)) rfl ?_
      refine xo_rd (rd_assign rfl) rfl ?_
      refine xo_nil ?_
      refine xq_block ?_
      refine xq_seq ?_
      refine xc_region ?_
      refine xo_rd (rd_move rfl) rfl ?_
      refine xo_rd (rd_addn rfl rfl (by omega) (by omega)) rfl ?_
      refine xo_rd (rd_assign rfl) rfl ?_
      refine xo_nil ?_
      rotate_left
      refine xc_skip ?_
      refine xq_block ?_
      refine xq_seq ?_
      refine xc_region ?_
      refine xo_rd (rd_move rfl) rfl ?_
      refine xo_rd (rd_addn rfl rfl (by omega) (by omega)) rfl ?_
      refine xo_rd (rd_assign rfl) rfl ?_
      refine xo_nil ?_
      rotate_left
    · have hsf : s = false := by simpa using hz2
      rw [hsf] at hstep
      simp only [Bool.not_false, if_true] at hstep
      refine xq_roundI (⟨i + 1, j + 1, xs.set i xv, l2⟩ : DfS) ⟨by dsimp only; omega, by dsimp only; omega, by dsimp only; rw [List.length_set]; exact hxl, by dsimp only; rw [hstep, List.length_append, ← hi]; rfl, ?_, ?_, ?_⟩ (by dsimp only; omega) rfl (by repeat (first | exact keep_nil | refine keep_cons rfl ?_))
      · dsimp only
        rw [hstep, ← htk, df_set (by omega)]
      · dsimp only
        rw [List.drop_set, if_pos (by omega), ← List.tail_drop, ← List.tail_drop, hdr]
      · dsimp only
        rw [ints_set]; exact hO2
    · have hst : s = true := by simpa using hz2
      rw [hst] at hstep
      simp only [Bool.not_true, Bool.false_eq_true, if_false, List.append_nil] at hstep
      refine xq_roundI (⟨i, j + 1, xs, l1⟩ : DfS) ⟨by dsimp only; omega, by dsimp only; omega, hxl, by dsimp only; rw [hstep]; exact hi, by dsimp only; rw [hstep]; exact htk, ?_, hO1⟩ (by dsimp only; omega) rfl (by repeat (first | exact keep_nil | refine keep_cons rfl ?_))
      dsimp only
      rw [← List.tail_drop, ← List.tail_drop, hdr]
  · have hjm' : j = m := by omega
    subst hjm'
    have htn : ns.take j = ns := List.take_of_length_le (by omega)
    rw [htn] at hi htk
    have hpre := hO1.pre i (by omega)
    obtain ⟨b, o, hpb, _⟩ := (hO1.rsl (W := W) (R := R)) 0 (.int .i64 (xs[0]'(by omega))) (by simp [ints])
    subst hpb
    focus
      refine xc_seq ?_
      refine xc_seq ?_
      refine xc_region ?_
      refine xo_rd (rd_move rfl) rfl ?_
      refine xo_rd (rd_move rfl) rfl ?_
      refine xo_rd (rd_len rfl) rfl ?_
      refine xo_rd (rd_lss rfl rfl) rfl ?_
      refine xo_nil ?_
      refine xq_seq ?_
      refine xc_dec rfl (fun h1 => (by exfalso; omega)) (fun h1 => ?_)
      refine xc_exit ?_
      refine xq_then_exit ?_
      refine xq_then_exit ?_
      refine xq_block_hit ?_
      refine xq_seq ?_
      refine xc_seq ?_
      refine xc_region ?_
      refine xo_rd (rd_move rfl) rfl ?_
      refine xo_rd (rd_move rfl) rfl ?_
      refine xo_rd (rd_cast (v' := .slice (slp (some ⟨b, o, none⟩) c i 1) (j - i) (c - i)) (rd_slLo rfl rfl (by omega) (by omega)) (by rw [Int.toNat_natCast])) rfl ?_
      refine xo_ef rfl (ef_clearQ [] R l1 hpre rfl rfl (by omega) (by omega) (by simp [Value.cells, Value.oneCell']) fun l2 hO2 => ?_)
      refine xo_nil ?_
      refine xq_seq ?_
      refine xc_seq ?_
      refine xc_region ?_
      refine xo_rd (rd_move rfl) rfl ?_
      refine xo_rd (rd_move rfl) rfl ?_
      refine xo_rd (rd_cast (v' := .slice (some ⟨b, o, none⟩) i c) (rd_slHi rfl rfl (by omega) (by omega)) (by rw [Int.toNat_natCast])) rfl ?_
      refine xo_rd (rd_assign rfl) rfl ?_
      refine xo_nil ?_
      refine xq_seq ?_
      refine xc_ret ?_
    refine xq_ret1 (.inl rfl) Tryz.results65 rfl ⟨l2, by rw [hi], ?_, rfl⟩
    rw [Nat.mul_one] at hO2
    rw [← htk]
    have hlt : (xs.take i).length = i := by rw [List.length_take]; omega
    rw [hlt, ints_take]
    exact hO2
/-- What IndexFunc tells. -/
theorem xf_ixi63 {W : World} {L : List Blk} (p : Option Addr) (m c : Nat) (ns : List Int) (pd : Int → Bool) (hx : ns.length = m) (hr : Rs W L p (ints .i64 ns)) (hm : m ≤ 1000000000)  (hp : ∀ x, x ∈ ns → XF Tryz.prog W 93 #[.int .i64 x] L (fun v L' => v = .bool (pd x) ∧ L' = L)) : XF Tryz.prog W 103 #[.slice p m c, .func (.func 93) #[] #[]] L (fun v L' => v = .int .i64 (ixP pd ns) ∧ L' = L) := by
  refine xf_enter (args := [_, _]) Tryz.func103 rfl Tryz.ntmps103 rfl ?_
  focus
    refine xc_seq ?_
    refine xc_region ?_
    refine xo_rd (rd_assign rfl) rfl ?_
    refine xo_nil ?_
    refine xq_seq ?_
    refine xc_seq ?_
    refine xc_seq ?_
    refine xc_region ?_
    refine xo_rd (rd_move rfl) rfl ?_
    refine xo_rd (rd_len rfl) rfl ?_
    refine xo_rd (rd_move rfl) rfl ?_
    refine xo_nil ?_
    refine xq_seq ?_
    refine xc_block ?_
  refine xc_loopK (ι := Nat) (fun k => k ≤ m ∧ ∀ (i : Nat) (h : i < ns.length), i < k → pd ns[i] = false) (fun k => m - k) (fun k => [(0, .slice p m c), (1, .func (.func 93) #[] #[]), (7, .int .i64 m), (8, .int .i64 k)]) 0 ⟨Nat.zero_le _, fun i h hi => absurd hi (Nat.not_lt_zero _)⟩ (by repeat (first | exact keep_nil | refine keep_cons rfl ?_)) ?_
  rintro k ⟨hk, hno⟩
  by_cases hkm : k < m
  · obtain ⟨b, o, hpb, hc⟩ := hr.int (i := k) (by omega)
    subst hpb
    have hpx := hp ns[k] (List.getElem_mem _)
    obtain ⟨s, hs⟩ : ∃ s, pd ns[k] = s := ⟨_, rfl⟩
    rw [hs] at hpx
    focus
      refine xc_seq ?_
      refine xc_region ?_
      refine xo_rd (rd_lss rfl rfl) rfl ?_
      refine xo_nil ?_
      refine xq_seq ?_
      refine xc_seq ?_
      refine xc_dec rfl (fun hz1 => ?_) (fun hz1 => (by exfalso; omega))
      refine xc_skip ?_
      refine xq_seq ?_
      refine xc_seq ?_
      refine xc_block ?_
      refine xc_seq ?_
      refine xc_region ?_
      refine xo_rd (rd_move rfl) rfl ?_
      refine xo_rd (rd_assign rfl) rfl ?_
      refine xo_nil ?_
      refine xq_seq ?_
      refine xc_seq ?_
      refine xc_region ?_
      refine xo_rd (rd_move rfl) rfl ?_
      refine xo_rd (rd_move rfl) rfl ?_
      refine xo_rd (rd_move rfl) rfl ?_
      refine xo_rd (rd_indexAddr rfl rfl (by omega) (by omega)) rfl ?_
      refine xo_rd (rd_load1 rfl hc) rfl ?_
      refine xo_ef rfl (ef_callk (r := .bool s) (vs := [.int .i64 ns[k]]) (first := []) (cap := []) rfl rfl hpx ?_)
      refine xo_nil ?_
      refine xq_seq ?_
      refine xc_cond rfl (fun hz2 => ?_) (fun hz2 => ?_)
      refine xc_seq ?_
      refine xc_region ?_
      refine xo_rd (rd_move rfl) rfl ?_
      refine xo_rd (rd_assign rfl) rfl ?_
      refine xo_nil ?_
      refine xq_seq ?_
      refine xc_ret ?_
      refine xq_block_ret ?_
      refine xq_then_ret ?_
      refine xq_then_ret ?_
      refine xq_block_ret ?_
      refine xq_then_ret ?_
      rotate_left
      refine xc_skip ?_
      refine xq_block ?_
      refine xq_seq ?_
      refine xc_region ?_
      refine xo_rd (rd_addn rfl rfl (by omega) (by omega)) rfl ?_
      refine xo_rd (rd_move rfl) rfl ?_
      refine xo_nil ?_
      rotate_left
    · refine xq_ret1 (.inl rfl) Tryz.results103 rfl ⟨?_, rfl⟩
      rw [ixP_some (k := k) (by omega) (hs.trans hz2) (fun i h hi => hno i h hi)]
    · refine xq_roundK rfl (k + 1) ⟨by omega, fun i h hi => ?_⟩ (by omega) (List.Sublist.refl _) (by repeat (first | exact keep_nil | refine keep_cons rfl ?_))
      by_cases he : i = k
      · subst he; exact hs.trans hz2
      · exact hno i h (by omega)
  · skip
    focus
      refine xc_seq ?_
      refine xc_region ?_
      refine xo_rd (rd_lss rfl rfl) rfl ?_
      refine xo_nil ?_
      refine xq_seq ?_
      refine xc_seq ?_
      refine xc_dec rfl (fun h1 => (by exfalso; omega)) (fun h1 => ?_)
      refine xc_exit ?_
      refine xq_then_exit ?_
      refine xq_then_exit ?_
      refine xq_block_hit ?_
      refine xq_seq ?_
      refine xc_seq ?_
      refine xc_region ?_
      refine xo_rd (rd_assign rfl) rfl ?_
      refine xo_nil ?_
      refine xq_seq ?_
      refine xc_ret ?_
    refine xq_ret1 (.inl rfl) Tryz.results103 rfl ⟨?_, rfl⟩
    rw [ixP_none (fun i h => hno i h (by omega))]
def farI (x : Int) : Bool := decide (x < 0) || decide (2147483647 < x)
theorem xf_far {W : World} {L : List Blk} (x : Int) : XF Tryz.prog W 93 #[.int .i64 x] L (fun v L' => v = .bool (farI x) ∧ L' = L) := by
  unfold farI
  refine xf_enter (args := [_]) Tryz.func93 rfl Tryz.ntmps93 rfl ?_
  focus
    refine xc_seq ?_
    refine xc_region ?_
    refine xo_rd (rd_assign rfl) rfl ?_
    refine xo_nil ?_
    refine xq_seq ?_
    refine xc_seq ?_
    refine xc_region ?_
    refine xo_rd (rd_move rfl) rfl ?_
    refine xo_rd (rd_lss rfl rfl) rfl ?_
    refine xo_rd (rd_move rfl) rfl ?_
    refine xo_dec 5 rfl (fun hz1 => ?_) (fun hz1 => ?_)
    refine xo_gskip rfl rfl rfl rfl ?_
    refine xo_gskip rfl rfl rfl rfl ?_
    refine xo_rd (rd_pickt rfl rfl) rfl ?_
    refine xo_rd (rd_assign rfl) rfl ?_
    refine xo_nil ?_
    refine xq_seq ?_
    refine xc_ret ?_
    rotate_left
    refine xo_grd rfl rfl (rd_move rfl) rfl ?_
    refine xo_grd rfl rfl (rd_gtr rfl rfl) rfl ?_
    refine xo_rd (rd_pickf rfl rfl) rfl ?_
    refine xo_rd (rd_assign rfl) rfl ?_
    refine xo_nil ?_
    refine xq_seq ?_
    refine xc_ret ?_
    rotate_left
  all_goals exact xq_ret1 (.inl rfl) Tryz.results93 rfl ⟨by first | (rw [decide_eq_true (show x < 0 by omega)]; rfl) | (rw [decide_eq_false (show ¬ x < 0 by omega)]; rfl), rfl⟩
theorem ixP_any (pd : Int → Bool) (l : List Int) : decide (0 ≤ ixP pd l) = l.any pd := by
  cases h : l.any pd with
  | true =>
    refine decide_eq_true ?_
    by_cases hn : ixP pd l = -1
    · obtain ⟨x, hx, hp⟩ := List.any_eq_true.1 h
      have := ixP_neg hn
      rw [List.filter_eq_self] at this
      have := this x hx
      rw [hp] at this; cases this
    · obtain ⟨k, hk, _⟩ := ixP_pos hn
      omega
  | false =>
    refine decide_eq_false ?_
    rw [ixP_none fun i hi => by simpa using (List.any_eq_false.1 h) l[i] (List.getElem_mem _)]
    decide
theorem xf_may {W : World} {L : List Blk} (r : Nat) (p : Option Addr) (n c : Nat) (l : List Int) (hn : l.length = n) (hr : Rs W L p (ints .i64 l)) (hm : n ≤ 1000000000) (b : Bool) (hb : l.any farI = b) : XF Tryz.prog W 58 #[.pointer (some ⟨r, 0, none⟩), .slice p n c] L (fun v L' => v = .int .i64 (if b = true then 130 else 0) ∧ L' = L) := by
  have hcf : XF Tryz.prog W 92 #[.slice p n c, .func (.func 93) #[] #[]] L (fun v L' => v = .bool b ∧ L' = L) := by
    rw [← hb, ← ixP_any]
    refine xf_enter (args := [_, _]) Tryz.func92 rfl Tryz.ntmps92 rfl ?_
    focus
      refine xc_seq ?_
      refine xc_region ?_
      refine xo_rd (rd_assign rfl) rfl ?_
      refine xo_nil ?_
      refine xq_seq ?_
      refine xc_seq ?_
      refine xc_region ?_
      refine xo_rd (rd_move rfl) rfl ?_
      refine xo_rd (rd_move rfl) rfl ?_
      refine xo_ef rfl (ef_call rfl (XF.mono (xf_ixi63 p n c l farI hn hr hm (fun x _ => xf_far x)) ?_))
      rintro v L' ⟨rfl, rfl⟩
      refine xo_rd (rd_geq rfl rfl) rfl ?_
      refine xo_rd (rd_assign rfl) rfl ?_
      refine xo_nil ?_
      refine xq_seq ?_
      refine xc_ret ?_
      exact xq_ret1 (.inl rfl) Tryz.results92 rfl (⟨rfl, rfl⟩)
  refine xf_enter (args := [_, _]) Tryz.func58 rfl Tryz.ntmps58 rfl ?_
  cases b with
  | true =>
    focus
      refine xc_seq ?_
      refine xc_region ?_
      refine xo_rd (rd_assign rfl) rfl ?_
      refine xo_nil ?_
      refine xq_seq ?_
      refine xc_seq ?_
      refine xc_block ?_
      refine xc_seq ?_
      refine xc_region ?_
      refine xo_rd (rd_move rfl) rfl ?_
      refine xo_rd (rd_eqnil rfl) rfl ?_
      refine xo_rd (rd_assign rfl) rfl ?_
      refine xo_nil ?_
      refine xq_seq ?_
      refine xc_condf rfl ?_
      refine xc_seq ?_
      refine xc_region ?_
      refine xo_rd (rd_move rfl) rfl ?_
      refine xo_ef rfl (ef_call rfl (XF.mono (hcf) ?_))
      rintro v L' ⟨rfl, rfl⟩
      refine xo_rd (rd_assign rfl) rfl ?_
      refine xo_nil ?_
      refine xq_seq ?_
      refine xc_condt rfl ?_
      refine xc_seq ?_
      refine xc_region ?_
      refine xo_rd (rd_assign rfl) rfl ?_
      refine xo_nil ?_
      refine xq_seq ?_
      refine xc_ret ?_
      refine xq_block_ret ?_
      refine xq_then_ret ?_
    exact xq_ret1 (.inl rfl) Tryz.results58 rfl ⟨rfl, rfl⟩
  | false =>
    focus
      refine xc_seq ?_
      refine xc_region ?_
      refine xo_rd (rd_assign rfl) rfl ?_
      refine xo_nil ?_
      refine xq_seq ?_
      refine xc_seq ?_
      refine xc_block ?_
      refine xc_seq ?_
      refine xc_region ?_
      refine xo_rd (rd_move rfl) rfl ?_
      refine xo_rd (rd_eqnil rfl) rfl ?_
      refine xo_rd (rd_assign rfl) rfl ?_
      refine xo_nil ?_
      refine xq_seq ?_
      refine xc_condf rfl ?_
      refine xc_seq ?_
      refine xc_region ?_
      refine xo_rd (rd_move rfl) rfl ?_
      refine xo_ef rfl (ef_call rfl (XF.mono (hcf) ?_))
      rintro v L' ⟨rfl, rfl⟩
      refine xo_rd (rd_assign rfl) rfl ?_
      refine xo_nil ?_
      refine xq_seq ?_
      refine xc_condf rfl ?_
      refine xc_skip ?_
      refine xq_block ?_
      refine xq_seq ?_
      refine xc_seq ?_
      refine xc_region ?_
      refine xo_rd (rd_assign rfl) rfl ?_
      refine xo_nil ?_
      refine xq_seq ?_
      refine xc_ret ?_
    exact xq_ret1 (.inl rfl) Tryz.results58 rfl ⟨rfl, rfl⟩
theorem xf_mayN {W : World} {L : List Blk} (p : Option Addr) (n c : Nat) : XF Tryz.prog W 58 #[.pointer none, .slice p n c] L (fun v L' => v = .int .i64 1 ∧ L' = L) := by
  refine xf_enter (args := [_, _]) Tryz.func58 rfl Tryz.ntmps58 rfl ?_
  focus
    refine xc_seq ?_
    refine xc_region ?_
    refine xo_rd (rd_assign rfl) rfl ?_
    refine xo_nil ?_
    refine xq_seq ?_
    refine xc_seq ?_
    refine xc_block ?_
    refine xc_seq ?_
    refine xc_region ?_
    refine xo_rd (rd_move rfl) rfl ?_
    refine xo_rd (rd_eqnil rfl) rfl ?_
    refine xo_rd (rd_assign rfl) rfl ?_
    refine xo_nil ?_
    refine xq_seq ?_
    refine xc_condt rfl ?_
    refine xc_seq ?_
    refine xc_region ?_
    refine xo_rd (rd_assign rfl) rfl ?_
    refine xo_nil ?_
    refine xq_seq ?_
    refine xc_ret ?_
    refine xq_block_ret ?_
    refine xq_then_ret ?_
  exact xq_ret1 (.inl rfl) Tryz.results58 rfl ⟨rfl, rfl⟩
theorem xf_has {W : World} {L : List Blk} (p : Option Addr) (m c : Nat) (ns : List Int) (x : Int) (hx : ns.length = m) (hr : Rs W L p (ints .i64 ns)) (hm : m ≤ 1000000000) : XF Tryz.prog W 54 #[.slice p m c, .int .i64 x] L (fun v L' => v = .bool (decide (x ∈ ns)) ∧ L' = L) := by
  refine xf_enter (args := [_, _]) Tryz.func54 rfl Tryz.ntmps54 rfl ?_
  focus
    refine xc_seq ?_
    refine xc_region ?_
    refine xo_rd (rd_assign rfl) rfl ?_
    refine xo_nil ?_
    refine xq_seq ?_
    refine xc_seq ?_
    refine xc_seq ?_
    refine xc_region ?_
    refine xo_rd (rd_assign rfl) rfl ?_
    refine xo_nil ?_
    refine xq_seq ?_
    refine xc_block ?_
  refine xc_loopK (ι := Nat) (fun k => k ≤ m ∧ ∀ (i : Nat) (h : i < ns.length), i < k → ns[i] ≠ x) (fun k => m - k) (fun k => [(0, .slice p m c), (1, .int .i64 x), (5, .int .i64 k)]) 0 ⟨Nat.zero_le _, fun i h hi => absurd hi (Nat.not_lt_zero _)⟩ (by repeat (first | exact keep_nil | refine keep_cons rfl ?_)) ?_
  rintro k ⟨hk, hno⟩
  by_cases hkm : k < m
  · obtain ⟨b, o, hpb, hc⟩ := hr.int (i := k) (by omega)
    subst hpb
    focus
      refine xc_seq ?_
      refine xc_seq ?_
      refine xc_region ?_
      refine xo_rd (rd_move rfl) rfl ?_
      refine xo_rd (rd_move rfl) rfl ?_
      refine xo_rd (rd_len rfl) rfl ?_
      refine xo_rd (rd_lss rfl rfl) rfl ?_
      refine xo_nil ?_
      refine xq_seq ?_
      refine xc_dec rfl (fun hz1 => ?_) (fun hz1 => (by exfalso; omega))
      refine xc_skip ?_
      refine xq_seq ?_
      refine xc_seq ?_
      refine xc_block ?_
      refine xc_seq ?_
      refine xc_region ?_
      refine xo_rd (rd_move rfl) rfl ?_
      refine xo_rd (rd_move rfl) rfl ?_
      refine xo_rd (rd_indexAddr rfl rfl (by omega) (by omega)) rfl ?_
      refine xo_rd (rd_load1 rfl hc) rfl ?_
      refine xo_rd (rd_move rfl) rfl ?_
      refine xo_rd (rd_eql rfl rfl) rfl ?_
      refine xo_nil ?_
      refine xq_seq ?_
      refine xc_dec rfl (fun hz2 => ?_) (fun hz2 => ?_)
      refine xc_seq ?_
      refine xc_region ?_
      refine xo_rd (rd_assign rfl) rfl ?_
      refine xo_nil ?_
      refine xq_seq ?_
      refine xc_ret ?_
      refine xq_block_ret ?_
      refine xq_then_ret ?_
      refine xq_then_ret ?_
      refine xq_block_ret ?_
      refine xq_then_ret ?_
      rotate_left
      refine xc_skip ?_
      refine xq_block ?_
      refine xq_seq ?_
      refine xc_region ?_
      refine xo_rd (rd_move rfl) rfl ?_
      refine xo_rd (rd_addn rfl rfl (by omega) (by omega)) rfl ?_
      refine xo_rd (rd_assign rfl) rfl ?_
      refine xo_nil ?_
      rotate_left
    · exact xq_ret1 (.inl rfl) Tryz.results54 rfl ⟨by rw [decide_eq_true (hz2 ▸ List.getElem_mem _)], rfl⟩
    · refine xq_roundK rfl (k + 1) ⟨by omega, fun i h hi => ?_⟩ (by omega) (List.Sublist.refl _) (by repeat (first | exact keep_nil | refine keep_cons rfl ?_))
      by_cases he : i = k
      · subst he; exact hz2
      · exact hno i h (by omega)
  · skip
    focus
      refine xc_seq ?_
      refine xc_seq ?_
      refine xc_region ?_
      refine xo_rd (rd_move rfl) rfl ?_
      refine xo_rd (rd_move rfl) rfl ?_
      refine xo_rd (rd_len rfl) rfl ?_
      refine xo_rd (rd_lss rfl rfl) rfl ?_
      refine xo_nil ?_
      refine xq_seq ?_
      refine xc_dec rfl (fun h1 => (by exfalso; omega)) (fun h1 => ?_)
      refine xc_exit ?_
      refine xq_then_exit ?_
      refine xq_then_exit ?_
      refine xq_block_hit ?_
      refine xq_seq ?_
      refine xc_seq ?_
      refine xc_region ?_
      refine xo_rd (rd_assign rfl) rfl ?_
      refine xo_nil ?_
      refine xq_seq ?_
      refine xc_ret ?_
    refine xq_ret1 (.inl rfl) Tryz.results54 rfl ⟨?_, rfl⟩
    rw [decide_eq_false]
    intro hm
    obtain ⟨i, hi, he⟩ := List.mem_iff_getElem.1 hm
    exact hno i hi (by omega) he
end Go.Proofs.YtmdeajdaeihniaaGreat.X
/-
  Chapter 25: what a room is, wherever it lies; calls of its roster and of its floor: walks of my own.
-/
namespace Go.Proofs.YtmdeajdaeihniaaGreat.X
open Go Go.RowKit
set_option linter.unusedVariables false
set_option linter.unusedSimpArgs false
/-- What somebody watches, by itself. -/
structure Wa where
  id : Int
  ct : Bool
  cs : List Int
/-- In memory. -/
structure Wm where
  a : Wa
  p : Option Addr
  c : Nat
  l : List Blk
def Wm.enc (w : Wm) : List Value := [.bool w.a.ct, .slice w.p w.a.cs.length w.c]
def Wm.v (w : Wm) : Value := .agg w.enc.toArray
def wlb (ws : List Wm) : List Blk := ws.flatMap Wm.l
def watF (ws : List Wm) (id : Int) : Option Wm := ws.find? fun w => w.a.id == id
def watV (ws : List Wm) (id : Int) : Option Value := (watF ws id).map Wm.v
def wfA (ws : List Wa) (id : Int) : Option Wa := ws.find? fun w => w.id == id
structure Rm where
  ro : Ro
  fr : Nat
  fm : Fm
  mb : Nat
  mo : Obj
  ws : List Wm
def rcl (a b m : Nat) : List Value := [.pointer (some ⟨a, 0, none⟩), .pointer (some ⟨b, 0, none⟩), .map (some m)]
def Rm.blks (r : Nat) (x : Rm) (L : List Blk) : List Blk := (r, .cells (rcl x.ro.c x.fr x.mb).toArray 81 (0, 0)) :: (x.mb, x.mo) :: (wlb x.ws ++ (x.ro.blks ++ x.fm.blks x.fr L))
def Rm.was (x : Rm) : List Wa := x.ws.map Wm.a
structure Wm.Ok (w : Wm) : Prop where
  sl : SlQ 1 3 (.slice w.p w.a.cs.length w.c) w.a.cs.length (ints .i64 w.a.cs) w.l
  few : w.a.cs.length ≤ 1000000
structure Rm.Ok (x : Rm) : Prop where
  ro : x.ro.Ok
  fm : x.fm.Ok
  mp : MpIs .i64 x.mo (watV x.ws) x.ws.length
  wo : ∀ w, w ∈ x.ws → w.Ok
  ids : x.ws.map (fun w => w.a.id) = x.ro.ms.map Mb.id
  rg : ∀ m, m ∈ x.ro.ms → m.id ≤ 2147483647
theorem perm_ro {a b : Blk} (w m F : List Blk) : (a :: b :: (w ++ (m ++ F))).Perm (m ++ (a :: b :: (w ++ F))) := (by classical exact List.perm_iff_count.2 fun a => by simp only [List.append_eq, List.count_append, List.count_cons, List.count_nil, List.cons_append, List.nil_append, List.flatMap_append, List.flatMap_cons, List.flatMap_nil, List.append_nil]; omega)
theorem Rm.perm_ro (r : Nat) (x : Rm) (L : List Blk) : (x.blks r L).Perm (x.ro.blks ++ ((r, .cells (rcl x.ro.c x.fr x.mb).toArray 81 (0, 0)) :: (x.mb, x.mo) :: (wlb x.ws ++ x.fm.blks x.fr L))) := X.perm_ro _ _ _
theorem Rm.perm_fm (r : Nat) (x : Rm) (L : List Blk) : (x.blks r L).Perm (x.fm.blks x.fr (((r, .cells (rcl x.ro.c x.fr x.mb).toArray 81 (0, 0)) :: (x.mb, x.mo) :: (wlb x.ws ++ x.ro.blks)) ++ L)) := by
  refine List.Perm.trans ?_ (Fm.blks_perm x.fr x.fm _ L)
  unfold Rm.blks
  rw [List.cons_append, List.cons_append, List.append_assoc]
theorem perm_front {a b : Blk} (A w m F : List Blk) (F' : List Blk) (h : (A ++ F).Perm F') : (A ++ (a :: b :: (w ++ (m ++ F)))).Perm (a :: b :: (w ++ (m ++ F'))) := by
  refine List.Perm.trans ?_ (((h.append_left m).append_left w).cons b |>.cons a)
  exact (by classical exact List.perm_iff_count.2 fun a => by simp only [List.append_eq, List.count_append, List.count_cons, List.count_nil, List.cons_append, List.nil_append, List.flatMap_append, List.flatMap_cons, List.flatMap_nil, List.append_nil]; omega)
theorem Rm.front (r : Nat) (x : Rm) (A L : List Blk) : (A ++ x.blks r L).Perm (x.blks r (A ++ L)) := perm_front A _ _ _ _ (Fm.blks_perm x.fr x.fm A L)
theorem Rm.sub (r : Nat) (x : Rm) (L : List Blk) : L.Sublist (x.blks r L) := ((((Fm.blks_sub x.fr x.fm L).trans (List.sublist_append_right x.ro.blks _)).trans (List.sublist_append_right (wlb x.ws) _)).trans (List.sublist_cons_self _ _)).trans (List.sublist_cons_self _ _)
theorem Rm.cl {W : World} {L L' : List Blk} {r : Nat} {x : Rm} (h : ∀ z, z ∈ x.blks r L → z ∈ L') : ∀ (j : Nat) (u : Value), (rcl x.ro.c x.fr x.mb)[j]? = some u → Cl W L' r j u := fun j u hj => Cl.own (h _ List.mem_cons_self) (by simpa using hj)
theorem Rm.kn {W : World} {L L' : List Blk} {r : Nat} {x : Rm} (h : ∀ z, z ∈ x.blks r L → z ∈ L') : Kn W L' x.mb x.mo := .inr (h _ (List.mem_cons_of_mem _ List.mem_cons_self))
theorem xr_ids {W : World} {L : List Blk} (r : Nat) (x : Rm) (hx : x.Ok) : XF Tryz.prog W 87 #[.pointer (some ⟨x.ro.c, 0, none⟩)] (x.blks r L) (fun v L' => ∃ p k l, v = .slice p x.ro.ms.length k ∧ SlO 1 3 (.slice p x.ro.ms.length k) x.ro.ms.length (ints .i64 (x.ro.ms.map Mb.id)) l ∧ L' = l ++ x.blks r L) :=
  ((xf_ids x.ro hx.ro).perm (x.perm_ro r L)).mapK fun v L' ⟨p, k, l, hv, hO, hL⟩ => ⟨l ++ x.blks r L, hL ▸ (x.perm_ro r L).symm.append_left l, p, k, l, hv, hO, rfl⟩
theorem xr_get {W : World} {L : List Blk} (r : Nat) (x : Rm) (hx : x.Ok) (id : Int) : XF Tryz.prog W 55 #[.pointer (some ⟨x.ro.c, 0, none⟩), .int .i64 id] (x.blks r L) (fun v L' => v = .tuple #[.agg ((getId x.ro.ms id).getD ⟨0, 0, 0, false⟩).enc.toArray, .bool (getId x.ro.ms id).isSome] ∧ L' = x.blks r L) :=
  (xf_get x.ro hx.ro id).permK (x.perm_ro r L)
theorem xr_src {W : World} {L : List Blk} (r : Nat) (x : Rm) (hx : x.Ok) (s : Int) : XF Tryz.prog W 86 #[.pointer (some ⟨x.ro.c, 0, none⟩), .int .u32 s] (x.blks r L) (fun v L' => v = .tuple #[.agg ((getSrc x.ro.ms s).getD ⟨0, 0, 0, false⟩).enc.toArray, .bool ((getSrc x.ro.ms s).any fun m => decide (m.content = s)), .bool (getSrc x.ro.ms s).isSome] ∧ L' = x.blks r L) := by
  cases h : getSrc x.ro.ms s with
  | none => exact (xf_source_none x.ro hx.ro s h).permK (x.perm_ro r L)
  | some m => exact (xf_source_some x.ro hx.ro s m h).permK (x.perm_ro r L)
/-- A call of the floor's, told of the room. -/
theorem xr_fl {W : World} {L : List Blk} (r : Nat) (x : Rm) {f : FuncId} {args : Array Value} {φ : Value → Prop} {a : Fa} (h : ∀ L, XF Tryz.prog W f args (x.fm.blks x.fr L) (fun v L' => φ v ∧ ∃ y : Fm, y.Ok ∧ y.a = a ∧ L' = y.blks x.fr L)) : XF Tryz.prog W f args (x.blks r L) (fun v L' => φ v ∧ ∃ y : Fm, y.Ok ∧ y.a = a ∧ L' = (Rm.mk x.ro x.fr y x.mb x.mo x.ws).blks r L) :=
  ((h _).perm (x.perm_fm r L)).mapK fun v L' ⟨hv, y, hy, hya, hL⟩ => ⟨_, hL ▸ ((Rm.mk x.ro x.fr y x.mb x.mo x.ws).perm_fm r L).symm, hv, y, hy, hya, rfl⟩
theorem Rm.fr' {W : World} {L L' : List Blk} {r : Nat} {x : Rm} (hx : x.Ok) (h : ∀ z, z ∈ x.blks r L → z ∈ L') : FR W L' x.fr x.fm :=
  hx.fm.fr0 (L := ((r, .cells (rcl x.ro.c x.fr x.mb).toArray 81 (0, 0)) :: (x.mb, x.mo) :: (wlb x.ws ++ x.ro.blks)) ++ L) fun z hz => h z ((x.perm_fm r L).mem_iff.2 hz)
theorem xf_RIds {W : World} {L : List Blk} (r : Nat) (x : Rm) (hx : x.Ok) : XF Tryz.prog W 50 #[.pointer (some ⟨r, 0, none⟩)] (x.blks r L) (fun v L' => ∃ p k l, v = .slice p x.ro.ms.length k ∧ SlO 1 3 (.slice p x.ro.ms.length k) x.ro.ms.length (ints .i64 (x.ro.ms.map Mb.id)) l ∧ L' = l ++ x.blks r L) := by
  refine xf_enter (args := [_]) Tryz.func50 rfl Tryz.ntmps50 rfl ?_
  focus
    refine xc_seq ?_
    refine xc_region ?_
    refine xo_rd (rd_assign rfl) rfl ?_
    refine xo_nil ?_
    refine xq_seq ?_
    refine xc_seq ?_
    refine xc_seq ?_
    refine xc_region ?_
    refine xo_rd (rd_move rfl) rfl ?_
    refine xo_rd (rd_eqnil rfl) rfl ?_
    refine xo_nil ?_
    refine xq_seq ?_
    refine xc_condf rfl ?_
    refine xc_skip ?_
    refine xq_seq ?_
    refine xc_seq ?_
    refine xc_region ?_
    refine xo_rd (rd_move rfl) rfl ?_
    refine xo_rd (rd_nilCheck rfl) rfl ?_
    refine xo_rd (rd_fieldAddr rfl) rfl ?_
    refine xo_rd (rd_fieldAddr rfl) rfl ?_
    refine xo_rd (rd_load1 rfl (Cl.o0 rfl)) rfl ?_
    refine xo_ef rfl (ef_call rfl (XF.mono (xr_ids r x hx) ?_))
    rintro v L' ⟨p, k, l, rfl, hO, rfl⟩
    refine xo_rd (rd_assign rfl) rfl ?_
    refine xo_nil ?_
    refine xq_seq ?_
    refine xc_ret ?_
  exact xq_ret1 (.inl rfl) Tryz.results50 rfl ⟨p, k, l, rfl, hO, rfl⟩
theorem xf_RIdsN {W : World} {L : List Blk} : XF Tryz.prog W 50 #[.pointer none] L (fun v L' => v = .slice none 0 0 ∧ L' = L) := by
  refine xf_enter (args := [_]) Tryz.func50 rfl Tryz.ntmps50 rfl ?_
  focus
    refine xc_seq ?_
    refine xc_region ?_
    refine xo_rd (rd_assign rfl) rfl ?_
    refine xo_nil ?_
    refine xq_seq ?_
    refine xc_seq ?_
    refine xc_seq ?_
    refine xc_region ?_
    refine xo_rd (rd_move rfl) rfl ?_
    refine xo_rd (rd_eqnil rfl) rfl ?_
    refine xo_nil ?_
    refine xq_seq ?_
    refine xc_condt rfl ?_
    refine xc_seq ?_
    refine xc_region ?_
    refine xo_rd (rd_assign rfl) rfl ?_
    refine xo_nil ?_
    refine xq_seq ?_
    refine xc_ret ?_
    refine xq_then_ret ?_
  exact xq_ret1 (.inl rfl) Tryz.results50 rfl ⟨rfl, rfl⟩
theorem xf_RHolder {W : World} {L : List Blk} (r : Nat) (x : Rm) (hx : x.Ok) : XF Tryz.prog W 43 #[.pointer (some ⟨r, 0, none⟩)] (x.blks r L) (fun v L' => v = .tuple #[.agg (gEnc (x.fm.a.no, x.fm.a.who, x.fm.a.at')).toArray, .bool x.fm.a.held] ∧ L' = x.blks r L) := by
  refine xf_enter (args := [_]) Tryz.func43 rfl Tryz.ntmps43 rfl ?_
  focus
    refine xc_seq ?_
    refine xc_region ?_
    refine xo_ef rfl (ef_alloc fun r2 => ?_)
    refine xo_rd (rd_assign rfl) rfl ?_
    refine xo_nil ?_
    refine xq_seq ?_
    refine xc_seq ?_
    refine xc_seq ?_
    refine xc_region ?_
    refine xo_rd (rd_move rfl) rfl ?_
    refine xo_rd (rd_eqnil rfl) rfl ?_
    refine xo_nil ?_
    refine xq_seq ?_
    refine xc_condf rfl ?_
    refine xc_skip ?_
    refine xq_seq ?_
    refine xc_seq ?_
    refine xc_region ?_
    refine xo_rd (rd_move rfl) rfl ?_
    refine xo_rd (rd_nilCheck rfl) rfl ?_
    refine xo_rd (rd_fieldAddr rfl) rfl ?_
    refine xo_rd (rd_load1 rfl (Cl.o1 rfl)) rfl ?_
    refine xo_ef rfl (ef_call rfl (XF.mono (xf_Holder x.fr x.fm (Rm.fr' (L := L) (r := r) hx (by intro z hz; simp [hz]))) ?_))
    rintro v L' ⟨rfl, rfl⟩
    refine xo_rd (rd_extract rfl rfl) rfl ?_
    refine xo_rd (rd_extract rfl rfl) rfl ?_
    refine xo_ef rfl (ef_storeB [] _ rfl rfl (by first | rfl | assumption) rfl rfl rfl ?_)
    refine xo_rd (rd_assign rfl) rfl ?_
    refine xo_nil ?_
    refine xq_seq ?_
    refine xc_ret ?_
  exact xq_retB2 (.inl rfl) Tryz.results43 rfl rfl Kn.o0 rfl (List.sublist_cons_self _ _) ⟨rfl, rfl⟩
theorem xf_RHolderN {W : World} {L : List Blk} : XF Tryz.prog W 43 #[.pointer none] L (fun v L' => v = .tuple #[.agg (gEnc (0, 0, 0)).toArray, .bool false] ∧ L' = L) := by
  refine xf_enter (args := [_]) Tryz.func43 rfl Tryz.ntmps43 rfl ?_
  focus
    refine xc_seq ?_
    refine xc_region ?_
    refine xo_ef rfl (ef_alloc fun r2 => ?_)
    refine xo_rd (rd_assign rfl) rfl ?_
    refine xo_nil ?_
    refine xq_seq ?_
    refine xc_seq ?_
    refine xc_seq ?_
    refine xc_region ?_
    refine xo_rd (rd_move rfl) rfl ?_
    refine xo_rd (rd_eqnil rfl) rfl ?_
    refine xo_nil ?_
    refine xq_seq ?_
    refine xc_condt rfl ?_
    refine xc_seq ?_
    refine xc_region ?_
    refine xo_rd (rd_cast (v' := .agg (gEnc (0, 0, 0)).toArray) (rd_build (T := 101) rfl rfl rfl) (by kernel_rfl)) rfl ?_
    refine xo_ef rfl (ef_storeB [] _ rfl rfl (by first | rfl | assumption) rfl rfl rfl ?_)
    refine xo_rd (rd_assign rfl) rfl ?_
    refine xo_nil ?_
    refine xq_seq ?_
    refine xc_ret ?_
    refine xq_then_ret ?_
  exact xq_retB2 (.inl rfl) Tryz.results43 rfl rfl Kn.o0 rfl (List.sublist_cons_self _ _) ⟨rfl, rfl⟩
theorem xf_RPending {W : World} {L : List Blk} (r : Nat) (x : Rm) (hx : x.Ok) : XF Tryz.prog W 45 #[.pointer (some ⟨r, 0, none⟩)] (x.blks r L) (fun v L' => v = .bool x.fm.a.pend ∧ L' = x.blks r L) := by
  refine xf_enter (args := [_]) Tryz.func45 rfl Tryz.ntmps45 rfl ?_
  focus
    refine xc_seq ?_
    refine xc_region ?_
    refine xo_rd (rd_assign rfl) rfl ?_
    refine xo_nil ?_
    refine xq_seq ?_
    refine xc_seq ?_
    refine xc_region ?_
    refine xo_rd (rd_move rfl) rfl ?_
    refine xo_rd (rd_nenil rfl) rfl ?_
    refine xo_rd (rd_move rfl) rfl ?_
    refine xo_grd rfl rfl (rd_move rfl) rfl ?_
    refine xo_grd rfl rfl (rd_nilCheck rfl) rfl ?_
    refine xo_grd rfl rfl (rd_fieldAddr rfl) rfl ?_
    refine xo_grd rfl rfl (rd_load1 rfl (Cl.o0 rfl)) rfl ?_
    refine xo_gef rfl rfl rfl (ef_call rfl (XF.mono (xf_Pending x.fr x.fm (Rm.fr' (L := L) (r := r) hx (by intro z hz; simp [hz]))) ?_))
    rintro v L' ⟨rfl, rfl⟩
    refine xo_rd (rd_pickt rfl rfl) rfl ?_
    refine xo_rd (rd_assign rfl) rfl ?_
    refine xo_nil ?_
    refine xq_seq ?_
    refine xc_ret ?_
  exact xq_ret1 (.inl rfl) Tryz.results45 rfl ⟨rfl, rfl⟩
theorem xf_RPendingN {W : World} {L : List Blk} : XF Tryz.prog W 45 #[.pointer none] L (fun v L' => v = .bool false ∧ L' = L) := by
  refine xf_enter (args := [_]) Tryz.func45 rfl Tryz.ntmps45 rfl ?_
  focus
    refine xc_seq ?_
    refine xc_region ?_
    refine xo_rd (rd_assign rfl) rfl ?_
    refine xo_nil ?_
    refine xq_seq ?_
    refine xc_seq ?_
    refine xc_region ?_
    refine xo_rd (rd_move rfl) rfl ?_
    refine xo_rd (rd_nenil rfl) rfl ?_
    refine xo_rd (rd_move rfl) rfl ?_
    refine xo_gskip rfl rfl rfl rfl ?_
    refine xo_gskip rfl rfl rfl rfl ?_
    refine xo_gskip rfl rfl rfl rfl ?_
    refine xo_gskip rfl rfl rfl rfl ?_
    refine xo_gskip rfl rfl rfl rfl ?_
    refine xo_rd (rd_pickf rfl rfl) rfl ?_
    refine xo_rd (rd_assign rfl) rfl ?_
    refine xo_nil ?_
    refine xq_seq ?_
    refine xc_ret ?_
  exact xq_ret1 (.inl rfl) Tryz.results45 rfl ⟨rfl, rfl⟩
theorem xf_RSource {W : World} {L : List Blk} (r : Nat) (x : Rm) (hx : x.Ok) (s : Int) : XF Tryz.prog W 46 #[.pointer (some ⟨r, 0, none⟩), .int .u32 s] (x.blks r L) (fun v L' => v = .tuple #[.agg ((getSrc x.ro.ms s).getD ⟨0, 0, 0, false⟩).enc.toArray, .bool ((getSrc x.ro.ms s).any fun m => decide (m.content = s)), .bool (getSrc x.ro.ms s).isSome] ∧ L' = x.blks r L) := by
  refine xf_enter (args := [_, _]) Tryz.func46 rfl Tryz.ntmps46 rfl ?_
  focus
    refine xc_seq ?_
    refine xc_region ?_
    refine xo_ef rfl (ef_alloc fun r4 => ?_)
    refine xo_rd (rd_assign rfl) rfl ?_
    refine xo_rd (rd_assign rfl) rfl ?_
    refine xo_nil ?_
    refine xq_seq ?_
    refine xc_seq ?_
    refine xc_seq ?_
    refine xc_region ?_
    refine xo_rd (rd_move rfl) rfl ?_
    refine xo_rd (rd_eqnil rfl) rfl ?_
    refine xo_nil ?_
    refine xq_seq ?_
    refine xc_condf rfl ?_
    refine xc_skip ?_
    refine xq_seq ?_
    refine xc_seq ?_
    refine xc_region ?_
    refine xo_rd (rd_move rfl) rfl ?_
    refine xo_rd (rd_nilCheck rfl) rfl ?_
    refine xo_rd (rd_fieldAddr rfl) rfl ?_
    refine xo_rd (rd_fieldAddr rfl) rfl ?_
    refine xo_rd (rd_load1 rfl (Cl.o1 rfl)) rfl ?_
    refine xo_rd (rd_move rfl) rfl ?_
    refine xo_ef rfl (ef_call rfl (XF.mono ((xr_src (L := _ :: L) r x hx s).permK (x.front r [_] L)) ?_))
    rintro v L' ⟨rfl, rfl⟩
    refine xo_rd (rd_extract rfl rfl) rfl ?_
    refine xo_rd (rd_extract rfl rfl) rfl ?_
    refine xo_rd (rd_extract rfl rfl) rfl ?_
    refine xo_ef rfl (ef_storeB [] _ rfl rfl (by first | rfl | assumption) rfl rfl rfl ?_)
    refine xo_rd (rd_assign rfl) rfl ?_
    refine xo_rd (rd_assign rfl) rfl ?_
    refine xo_nil ?_
    refine xq_seq ?_
    refine xc_ret ?_
  exact xq_retB3 (.inl rfl) Tryz.results46 rfl rfl rfl Kn.o0 rfl (List.sublist_cons_self _ _) ⟨rfl, rfl⟩
theorem xf_RSourceN {W : World} {L : List Blk} (s : Int) : XF Tryz.prog W 46 #[.pointer none, .int .u32 s] L (fun v L' => v = .tuple #[.agg (Mb.mk 0 0 0 false).enc.toArray, .bool false, .bool false] ∧ L' = L) := by
  refine xf_enter (args := [_, _]) Tryz.func46 rfl Tryz.ntmps46 rfl ?_
  focus
    refine xc_seq ?_
    refine xc_region ?_
    refine xo_ef rfl (ef_alloc fun r4 => ?_)
    refine xo_rd (rd_assign rfl) rfl ?_
    refine xo_rd (rd_assign rfl) rfl ?_
    refine xo_nil ?_
    refine xq_seq ?_
    refine xc_seq ?_
    refine xc_seq ?_
    refine xc_region ?_
    refine xo_rd (rd_move rfl) rfl ?_
    refine xo_rd (rd_eqnil rfl) rfl ?_
    refine xo_nil ?_
    refine xq_seq ?_
    refine xc_condt rfl ?_
    refine xc_seq ?_
    refine xc_region ?_
    refine xo_rd (rd_build rfl rfl rfl) rfl ?_
    refine xo_ef rfl (ef_storeB [] _ rfl rfl (by first | rfl | assumption) rfl rfl rfl ?_)
    refine xo_rd (rd_assign rfl) rfl ?_
    refine xo_rd (rd_assign rfl) rfl ?_
    refine xo_nil ?_
    refine xq_seq ?_
    refine xc_ret ?_
    refine xq_then_ret ?_
  exact xq_retB3 (.inl rfl) Tryz.results46 rfl rfl rfl Kn.o0 rfl (List.sublist_cons_self _ _) ⟨rfl, rfl⟩
theorem xf_RMember {W : World} {L : List Blk} (r : Nat) (x : Rm) (hx : x.Ok) (id : Int) : XF Tryz.prog W 48 #[.pointer (some ⟨r, 0, none⟩), .int .i64 id] (x.blks r L) (fun v L' => v = .tuple #[.agg ((getId x.ro.ms id).getD ⟨0, 0, 0, false⟩).enc.toArray, .bool (getId x.ro.ms id).isSome] ∧ L' = x.blks r L) := by
  refine xf_enter (args := [_, _]) Tryz.func48 rfl Tryz.ntmps48 rfl ?_
  focus
    refine xc_seq ?_
    refine xc_region ?_
    refine xo_ef rfl (ef_alloc fun r4 => ?_)
    refine xo_rd (rd_assign rfl) rfl ?_
    refine xo_nil ?_
    refine xq_seq ?_
    refine xc_seq ?_
    refine xc_seq ?_
    refine xc_region ?_
    refine xo_rd (rd_move rfl) rfl ?_
    refine xo_rd (rd_eqnil rfl) rfl ?_
    refine xo_nil ?_
    refine xq_seq ?_
    refine xc_condf rfl ?_
    refine xc_skip ?_
    refine xq_seq ?_
    refine xc_seq ?_
    refine xc_region ?_
    refine xo_rd (rd_move rfl) rfl ?_
    refine xo_rd (rd_nilCheck rfl) rfl ?_
    refine xo_rd (rd_fieldAddr rfl) rfl ?_
    refine xo_rd (rd_fieldAddr rfl) rfl ?_
    refine xo_rd (rd_load1 rfl (Cl.o1 rfl)) rfl ?_
    refine xo_rd (rd_move rfl) rfl ?_
    refine xo_ef rfl (ef_call rfl (XF.mono ((xr_get (L := _ :: L) r x hx id).permK (x.front r [_] L)) ?_))
    rintro v L' ⟨rfl, rfl⟩
    refine xo_rd (rd_extract rfl rfl) rfl ?_
    refine xo_rd (rd_extract rfl rfl) rfl ?_
    refine xo_ef rfl (ef_storeB [] _ rfl rfl (by first | rfl | assumption) rfl rfl rfl ?_)
    refine xo_rd (rd_assign rfl) rfl ?_
    refine xo_nil ?_
    refine xq_seq ?_
    refine xc_ret ?_
  exact xq_retB2 (.inl rfl) Tryz.results48 rfl rfl Kn.o0 rfl (List.sublist_cons_self _ _) ⟨rfl, rfl⟩
theorem xf_RMemberN {W : World} {L : List Blk} (id : Int) : XF Tryz.prog W 48 #[.pointer none, .int .i64 id] L (fun v L' => v = .tuple #[.agg (Mb.mk 0 0 0 false).enc.toArray, .bool false] ∧ L' = L) := by
  refine xf_enter (args := [_, _]) Tryz.func48 rfl Tryz.ntmps48 rfl ?_
  focus
    refine xc_seq ?_
    refine xc_region ?_
    refine xo_ef rfl (ef_alloc fun r4 => ?_)
    refine xo_rd (rd_assign rfl) rfl ?_
    refine xo_nil ?_
    refine xq_seq ?_
    refine xc_seq ?_
    refine xc_seq ?_
    refine xc_region ?_
    refine xo_rd (rd_move rfl) rfl ?_
    refine xo_rd (rd_eqnil rfl) rfl ?_
    refine xo_nil ?_
    refine xq_seq ?_
    refine xc_condt rfl ?_
    refine xc_seq ?_
    refine xc_region ?_
    refine xo_rd (rd_build rfl rfl rfl) rfl ?_
    refine xo_ef rfl (ef_storeB [] _ rfl rfl (by first | rfl | assumption) rfl rfl rfl ?_)
    refine xo_rd (rd_assign rfl) rfl ?_
    refine xo_nil ?_
    refine xq_seq ?_
    refine xc_ret ?_
    refine xq_then_ret ?_
  exact xq_retB2 (.inl rfl) Tryz.results48 rfl rfl Kn.o0 rfl (List.sublist_cons_self _ _) ⟨rfl, rfl⟩
end Go.Proofs.YtmdeajdaeihniaaGreat.X
/-
  Chapter 25: what is asked of a room's floor; what somebody watches; for whom something holds: walks of my own.
-/
namespace Go.Proofs.YtmdeajdaeihniaaGreat.X
open Go Go.RowKit
set_option linter.unusedVariables false
set_option linter.unusedSimpArgs false
theorem far_in {x : Int} (h : farI x = false) : 0 ≤ x ∧ x ≤ 2147483647 := by
  unfold farI at h
  rw [Bool.or_eq_false_iff] at h
  have := of_decide_eq_false h.1
  have := of_decide_eq_false h.2
  omega
theorem Rm.Ok.fmk {x : Rm} (hx : x.Ok) {y : Fm} (hy : y.Ok) : (Rm.mk x.ro x.fr y x.mb x.mo x.ws).Ok := ⟨hx.ro, hy, hx.mp, hx.wo, hx.ids, hx.rg⟩
theorem Fm.blks_subA (r : Nat) (x : Fm) (A L : List Blk) : (x.blks r L).Sublist (x.blks r (A ++ L)) := ((((List.sublist_append_right A L).append_left x.gl).append_left x.wl).cons_cons _).cons_cons _
theorem Rm.blks_sub (r : Nat) (x : Rm) (A L : List Blk) : (x.blks r L).Sublist (x.blks r (A ++ L)) := ((((Fm.blks_subA x.fr x.fm A L).append_left x.ro.blks).append_left (wlb x.ws)).cons_cons _).cons_cons _
theorem xf_RRequest {W : World} {L : List Blk} (r : Nat) (x : Rm) (hx : x.Ok) (id now : Int) (hg : x.fm.a.gs.length ≤ 1000000) : XF Tryz.prog W 17 #[.pointer (some ⟨r, 0, none⟩), .int .i64 id, .int .u64 now] (x.blks r L) (fun v L' => v = .int .i64 (if farI id = true then 130 else reqE x.fm.a id) ∧ ∃ y : Fm, y.Ok ∧ y.a = (if farI id = true then x.fm.a else reqF x.fm.a id now) ∧ L' = (Rm.mk x.ro x.fr y x.mb x.mo x.ws).blks r L) := by
  refine xf_enter (args := [_, _, _]) Tryz.func17 rfl Tryz.ntmps17 rfl ?_
  cases hfar : farI id with
  | true =>
    focus
      refine xc_seq ?_
      refine xc_region ?_
      refine xo_rd (rd_assign rfl) rfl ?_
      refine xo_nil ?_
      refine xq_seq ?_
      refine xc_seq ?_
      refine xc_seq ?_
      refine xc_region ?_
      refine xo_rd (rd_move rfl) rfl ?_
      refine xo_rd (rd_move rfl) rfl ?_
      refine xo_ef rfl (ef_buildL (T := 50) (len := 1) (s := 1) (cells := (ints .i64 [id]).toArray) rfl (by decide) (by decide) (by kernel_rfl) fun r10 => ?_)
      refine xo_ef rfl (ef_call rfl (XF.mono (xf_may r _ 1 1 [id] rfl rs_cons (by decide) true (by simp [hfar])) ?_))
      rintro v L' ⟨rfl, rfl⟩
      refine xo_rd (rd_assign rfl) rfl ?_
      refine xo_nil ?_
      refine xq_seq ?_
      refine xc_seq ?_
      refine xc_region ?_
      refine xo_rd (rd_move rfl) rfl ?_
      refine xo_rd (rd_neq rfl rfl) rfl ?_
      refine xo_nil ?_
      refine xq_seq ?_
      refine xc_condt rfl ?_
      refine xc_seq ?_
      refine xc_region ?_
      refine xo_rd (rd_move rfl) rfl ?_
      refine xo_rd (rd_assign rfl) rfl ?_
      refine xo_nil ?_
      refine xq_seq ?_
      refine xc_ret ?_
      refine xq_then_ret ?_
    exact xq_sub (List.sublist_cons_self _ _) (xq_ret1 (.inl rfl) Tryz.results17 rfl ⟨rfl, x.fm, hx.fm, rfl, rfl⟩)
  | false =>
    have hin := far_in hfar
    focus
      refine xc_seq ?_
      refine xc_region ?_
      refine xo_rd (rd_assign rfl) rfl ?_
      refine xo_nil ?_
      refine xq_seq ?_
      refine xc_seq ?_
      refine xc_seq ?_
      refine xc_region ?_
      refine xo_rd (rd_move rfl) rfl ?_
      refine xo_rd (rd_move rfl) rfl ?_
      refine xo_ef rfl (ef_buildL (T := 50) (len := 1) (s := 1) (cells := (ints .i64 [id]).toArray) rfl (by decide) (by decide) (by kernel_rfl) fun r10 => ?_)
      refine xo_ef rfl (ef_call rfl (XF.mono (xf_may r _ 1 1 [id] rfl rs_cons (by decide) false (by simp [hfar])) ?_))
      rintro v L' ⟨rfl, rfl⟩
      refine xo_rd (rd_assign rfl) rfl ?_
      refine xo_nil ?_
      refine xq_seq ?_
      refine xc_seq ?_
      refine xc_region ?_
      refine xo_rd (rd_move rfl) rfl ?_
      refine xo_rd (rd_neq rfl rfl) rfl ?_
      refine xo_nil ?_
      refine xq_seq ?_
      refine xc_condf rfl ?_
      refine xc_skip ?_
      refine xq_seq ?_
    refine xc_sub (List.sublist_cons_self _ _) ?_
    focus
      refine xc_seq ?_
      refine xc_region ?_
      refine xo_rd (rd_move rfl) rfl ?_
      refine xo_rd (rd_nilCheck rfl) rfl ?_
      refine xo_rd (rd_fieldAddr rfl) rfl ?_
      refine xo_rd (rd_load1 rfl (Cl.o0 rfl)) rfl ?_
      refine xo_rd (rd_move rfl) rfl ?_
      refine xo_rd (rd_convn rfl (by omega) (by omega)) rfl ?_
      refine xo_rd (rd_move rfl) rfl ?_
      refine xo_ef rfl (ef_call rfl (XF.mono (xr_fl r x (fun L => xf_Request x.fr x.fm hx.fm id now hg)) ?_))
      rintro v L' ⟨rfl, y, hy, hya, rfl⟩
      refine xo_rd (rd_assign rfl) rfl ?_
      refine xo_nil ?_
      refine xq_seq ?_
      refine xc_ret ?_
    exact xq_ret1 (.inl rfl) Tryz.results17 rfl ⟨rfl, y, hy, hya, rfl⟩
theorem xf_RRelease {W : World} {L : List Blk} (r : Nat) (x : Rm) (hx : x.Ok) (id now : Int) (hg : x.fm.a.gs.length ≤ 1000000) : XF Tryz.prog W 39 #[.pointer (some ⟨r, 0, none⟩), .int .i64 id, .int .u64 now] (x.blks r L) (fun v L' => v = .int .i64 (if farI id = true then 130 else relE x.fm.a id) ∧ ∃ y : Fm, y.Ok ∧ y.a = (if farI id = true then x.fm.a else relF x.fm.a id now) ∧ L' = (Rm.mk x.ro x.fr y x.mb x.mo x.ws).blks r L) := by
  refine xf_enter (args := [_, _, _]) Tryz.func39 rfl Tryz.ntmps39 rfl ?_
  cases hfar : farI id with
  | true =>
    focus
      refine xc_seq ?_
      refine xc_region ?_
      refine xo_rd (rd_assign rfl) rfl ?_
      refine xo_nil ?_
      refine xq_seq ?_
      refine xc_seq ?_
      refine xc_seq ?_
      refine xc_region ?_
      refine xo_rd (rd_move rfl) rfl ?_
      refine xo_rd (rd_move rfl) rfl ?_
      refine xo_ef rfl (ef_buildL (T := 50) (len := 1) (s := 1) (cells := (ints .i64 [id]).toArray) rfl (by decide) (by decide) (by kernel_rfl) fun r10 => ?_)
      refine xo_ef rfl (ef_call rfl (XF.mono (xf_may r _ 1 1 [id] rfl rs_cons (by decide) true (by simp [hfar])) ?_))
      rintro v L' ⟨rfl, rfl⟩
      refine xo_rd (rd_assign rfl) rfl ?_
      refine xo_nil ?_
      refine xq_seq ?_
      refine xc_seq ?_
      refine xc_region ?_
      refine xo_rd (rd_move rfl) rfl ?_
      refine xo_rd (rd_neq rfl rfl) rfl ?_
      refine xo_nil ?_
      refine xq_seq ?_
      refine xc_condt rfl ?_
      refine xc_seq ?_
      refine xc_region ?_
      refine xo_rd (rd_move rfl) rfl ?_
      refine xo_rd (rd_assign rfl) rfl ?_
      refine xo_nil ?_
      refine xq_seq ?_
      refine xc_ret ?_
      refine xq_then_ret ?_
    exact xq_sub (List.sublist_cons_self _ _) (xq_ret1 (.inl rfl) Tryz.results39 rfl ⟨rfl, x.fm, hx.fm, rfl, rfl⟩)
  | false =>
    have hin := far_in hfar
    focus
      refine xc_seq ?_
      refine xc_region ?_
      refine xo_rd (rd_assign rfl) rfl ?_
      refine xo_nil ?_
      refine xq_seq ?_
      refine xc_seq ?_
      refine xc_seq ?_
      refine xc_region ?_
      refine xo_rd (rd_move rfl) rfl ?_
      refine xo_rd (rd_move rfl) rfl ?_
      refine xo_ef rfl (ef_buildL (T := 50) (len := 1) (s := 1) (cells := (ints .i64 [id]).toArray) rfl (by decide) (by decide) (by kernel_rfl) fun r10 => ?_)
      refine xo_ef rfl (ef_call rfl (XF.mono (xf_may r _ 1 1 [id] rfl rs_cons (by decide) false (by simp [hfar])) ?_))
      rintro v L' ⟨rfl, rfl⟩
      refine xo_rd (rd_assign rfl) rfl ?_
      refine xo_nil ?_
      refine xq_seq ?_
      refine xc_seq ?_
      refine xc_region ?_
      refine xo_rd (rd_move rfl) rfl ?_
      refine xo_rd (rd_neq rfl rfl) rfl ?_
      refine xo_nil ?_
      refine xq_seq ?_
      refine xc_condf rfl ?_
      refine xc_skip ?_
      refine xq_seq ?_
    refine xc_sub (List.sublist_cons_self _ _) ?_
    focus
      refine xc_seq ?_
      refine xc_region ?_
      refine xo_rd (rd_move rfl) rfl ?_
      refine xo_rd (rd_nilCheck rfl) rfl ?_
      refine xo_rd (rd_fieldAddr rfl) rfl ?_
      refine xo_rd (rd_load1 rfl (Cl.o0 rfl)) rfl ?_
      refine xo_rd (rd_move rfl) rfl ?_
      refine xo_rd (rd_convn rfl (by omega) (by omega)) rfl ?_
      refine xo_rd (rd_move rfl) rfl ?_
      refine xo_ef rfl (ef_call rfl (XF.mono (xr_fl r x (fun L => xf_Release x.fr x.fm hx.fm id now hg)) ?_))
      rintro v L' ⟨rfl, y, hy, hya, rfl⟩
      refine xo_rd (rd_assign rfl) rfl ?_
      refine xo_nil ?_
      refine xq_seq ?_
      refine xc_ret ?_
    exact xq_ret1 (.inl rfl) Tryz.results39 rfl ⟨rfl, y, hy, hya, rfl⟩
theorem xf_RRevoke {W : World} {L : List Blk} (r : Nat) (x : Rm) (hx : x.Ok) (b id now : Int) (hg : x.fm.a.gs.length ≤ 1000000) : XF Tryz.prog W 40 #[.pointer (some ⟨r, 0, none⟩), .int .i64 b, .int .i64 id, .int .u64 now] (x.blks r L) (fun v L' => v = .int .i64 (if (farI b || farI id) = true then 130 else revE x.fm.a b id) ∧ ∃ y : Fm, y.Ok ∧ y.a = (if (farI b || farI id) = true then x.fm.a else revF x.fm.a b id now) ∧ L' = (Rm.mk x.ro x.fr y x.mb x.mo x.ws).blks r L) := by
  refine xf_enter (args := [_, _, _, _]) Tryz.func40 rfl Tryz.ntmps40 rfl ?_
  cases hfar : farI b || farI id with
  | true =>
    focus
      refine xc_seq ?_
      refine xc_region ?_
      refine xo_rd (rd_assign rfl) rfl ?_
      refine xo_nil ?_
      refine xq_seq ?_
      refine xc_seq ?_
      refine xc_seq ?_
      refine xc_region ?_
      refine xo_rd (rd_move rfl) rfl ?_
      refine xo_rd (rd_move rfl) rfl ?_
      refine xo_rd (rd_move rfl) rfl ?_
      refine xo_ef rfl (ef_buildL (T := 50) (len := 2) (s := 1) (cells := (ints .i64 [b, id]).toArray) rfl (by decide) (by decide) (by kernel_rfl) fun r12 => ?_)
      refine xo_ef rfl (ef_call rfl (XF.mono (xf_may r _ 2 2 [b, id] rfl rs_cons (by decide) true (by simpa using hfar)) ?_))
      rintro v L' ⟨rfl, rfl⟩
      refine xo_rd (rd_assign rfl) rfl ?_
      refine xo_nil ?_
      refine xq_seq ?_
      refine xc_seq ?_
      refine xc_region ?_
      refine xo_rd (rd_move rfl) rfl ?_
      refine xo_rd (rd_neq rfl rfl) rfl ?_
      refine xo_nil ?_
      refine xq_seq ?_
      refine xc_condt rfl ?_
      refine xc_seq ?_
      refine xc_region ?_
      refine xo_rd (rd_move rfl) rfl ?_
      refine xo_rd (rd_assign rfl) rfl ?_
      refine xo_nil ?_
      refine xq_seq ?_
      refine xc_ret ?_
      refine xq_then_ret ?_
    exact xq_sub (List.sublist_cons_self _ _) (xq_ret1 (.inl rfl) Tryz.results40 rfl ⟨rfl, x.fm, hx.fm, rfl, rfl⟩)
  | false =>
    have hff := Bool.or_eq_false_iff.1 hfar
    have hin := far_in hff.1
    have hin2 := far_in hff.2
    focus
      refine xc_seq ?_
      refine xc_region ?_
      refine xo_rd (rd_assign rfl) rfl ?_
      refine xo_nil ?_
      refine xq_seq ?_
      refine xc_seq ?_
      refine xc_seq ?_
      refine xc_region ?_
      refine xo_rd (rd_move rfl) rfl ?_
      refine xo_rd (rd_move rfl) rfl ?_
      refine xo_rd (rd_move rfl) rfl ?_
      refine xo_ef rfl (ef_buildL (T := 50) (len := 2) (s := 1) (cells := (ints .i64 [b, id]).toArray) rfl (by decide) (by decide) (by kernel_rfl) fun r12 => ?_)
      refine xo_ef rfl (ef_call rfl (XF.mono (xf_may r _ 2 2 [b, id] rfl rs_cons (by decide) false (by simpa using hfar)) ?_))
      rintro v L' ⟨rfl, rfl⟩
      refine xo_rd (rd_assign rfl) rfl ?_
      refine xo_nil ?_
      refine xq_seq ?_
      refine xc_seq ?_
      refine xc_region ?_
      refine xo_rd (rd_move rfl) rfl ?_
      refine xo_rd (rd_neq rfl rfl) rfl ?_
      refine xo_nil ?_
      refine xq_seq ?_
      refine xc_condf rfl ?_
      refine xc_skip ?_
      refine xq_seq ?_
    refine xc_sub (List.sublist_cons_self _ _) ?_
    focus
      refine xc_seq ?_
      refine xc_region ?_
      refine xo_rd (rd_move rfl) rfl ?_
      refine xo_rd (rd_nilCheck rfl) rfl ?_
      refine xo_rd (rd_fieldAddr rfl) rfl ?_
      refine xo_rd (rd_load1 rfl (Cl.o0 rfl)) rfl ?_
      refine xo_rd (rd_move rfl) rfl ?_
      refine xo_rd (rd_convn rfl (by omega) (by omega)) rfl ?_
      refine xo_rd (rd_move rfl) rfl ?_
      refine xo_rd (rd_convn rfl (by omega) (by omega)) rfl ?_
      refine xo_rd (rd_move rfl) rfl ?_
      refine xo_ef rfl (ef_call rfl (XF.mono (xr_fl r x (fun L => xf_Revoke x.fr x.fm hx.fm b id now hg)) ?_))
      rintro v L' ⟨rfl, y, hy, hya, rfl⟩
      refine xo_rd (rd_assign rfl) rfl ?_
      refine xo_nil ?_
      refine xq_seq ?_
      refine xc_ret ?_
    exact xq_ret1 (.inl rfl) Tryz.results40 rfl ⟨rfl, y, hy, hya, rfl⟩
theorem xf_RHeard {W : World} {L : List Blk} (r : Nat) (x : Rm) (hx : x.Ok) (id now : Int) (k : Bool) : XF Tryz.prog W 41 #[.pointer (some ⟨r, 0, none⟩), .int .i64 id, .int .u64 now, .bool k] (x.blks r L) (fun v L' => v = .bool (!farI id && holdsA x.fm.a id) ∧ ∃ y : Fm, y.Ok ∧ y.a = (if farI id = true then x.fm.a else heardF x.fm.a id now k) ∧ L' = (Rm.mk x.ro x.fr y x.mb x.mo x.ws).blks r L) := by
  refine xf_enter (args := [_, _, _, _]) Tryz.func41 rfl Tryz.ntmps41 rfl ?_
  cases hfar : farI id with
  | true =>
    focus
      refine xc_seq ?_
      refine xc_region ?_
      refine xo_rd (rd_assign rfl) rfl ?_
      refine xo_nil ?_
      refine xq_seq ?_
      refine xc_seq ?_
      refine xc_region ?_
      refine xo_rd (rd_move rfl) rfl ?_
      refine xo_rd (rd_move rfl) rfl ?_
      refine xo_ef rfl (ef_buildL (T := 50) (len := 1) (s := 1) (cells := (ints .i64 [id]).toArray) rfl (by decide) (by decide) (by kernel_rfl) fun r11 => ?_)
      refine xo_ef rfl (ef_call rfl (XF.mono (xf_may r _ 1 1 [id] rfl rs_cons (by decide) true (by simp [hfar])) ?_))
      rintro v L' ⟨rfl, rfl⟩
      refine xo_rd (rd_eql rfl rfl) rfl ?_
      refine xo_rd (rd_move rfl) rfl ?_
      refine xo_gskip rfl rfl rfl rfl ?_
      refine xo_gskip rfl rfl rfl rfl ?_
      refine xo_gskip rfl rfl rfl rfl ?_
      refine xo_gskip rfl rfl rfl rfl ?_
      refine xo_gskip rfl rfl rfl rfl ?_
      refine xo_gskip rfl rfl rfl rfl ?_
      refine xo_gskip rfl rfl rfl rfl ?_
      refine xo_gskip rfl rfl rfl rfl ?_
      refine xo_gskip rfl rfl rfl rfl ?_
      refine xo_rd (rd_pickf rfl rfl) rfl ?_
      refine xo_rd (rd_assign rfl) rfl ?_
      refine xo_nil ?_
      refine xq_seq ?_
      refine xc_ret ?_
    exact xq_sub (List.sublist_cons_self _ _) (xq_ret1 (.inl rfl) Tryz.results41 rfl ⟨rfl, x.fm, hx.fm, rfl, rfl⟩)
  | false =>
    have hin := far_in hfar
    focus
      refine xc_seq ?_
      refine xc_region ?_
      refine xo_rd (rd_assign rfl) rfl ?_
      refine xo_nil ?_
      refine xq_seq ?_
      refine xc_seq ?_
      refine xc_region ?_
      refine xo_rd (rd_move rfl) rfl ?_
      refine xo_rd (rd_move rfl) rfl ?_
      refine xo_ef rfl (ef_buildL (T := 50) (len := 1) (s := 1) (cells := (ints .i64 [id]).toArray) rfl (by decide) (by decide) (by kernel_rfl) fun r11 => ?_)
      refine xo_ef rfl (ef_call rfl (XF.mono (xf_may r _ 1 1 [id] rfl rs_cons (by decide) false (by simp [hfar])) ?_))
      rintro v L' ⟨rfl, rfl⟩
      refine xo_rd (rd_eql rfl rfl) rfl ?_
      refine xo_rd (rd_move rfl) rfl ?_
      refine xo_grd rfl rfl (rd_move rfl) rfl ?_
      refine xo_grd rfl rfl (rd_nilCheck rfl) rfl ?_
      refine xo_grd rfl rfl (rd_fieldAddr rfl) rfl ?_
      refine xo_grd rfl rfl (rd_load1 rfl (Cl.o1 rfl)) rfl ?_
      refine xo_grd rfl rfl (rd_move rfl) rfl ?_
      refine xo_grd rfl rfl (rd_convn rfl (by omega) (by omega)) rfl ?_
      refine xo_grd rfl rfl (rd_move rfl) rfl ?_
      refine xo_grd rfl rfl (rd_move rfl) rfl ?_
      refine xo_gef rfl rfl rfl (ef_call rfl (XF.mono ((xr_fl (L := _ :: L) r x (fun L => xf_Heard x.fr x.fm hx.fm id now k)).perm (x.front r [_] L)) ?_))
      rintro v L' ⟨rfl, y, hy, hya, rfl⟩
      refine xo_rd (rd_pickt rfl rfl) rfl ?_
      refine xo_rd (rd_assign rfl) rfl ?_
      refine xo_nil ?_
      refine xq_seq ?_
      refine xc_ret ?_
    exact xq_sub ((Rm.mk x.ro x.fr y x.mb x.mo x.ws).blks_sub r [_] L) (xq_ret1 (.inl rfl) Tryz.results41 rfl ⟨rfl, y, hy, hya, rfl⟩)
theorem xf_RTick {W : World} {L : List Blk} (r : Nat) (x : Rm) (hx : x.Ok) (now : Int) (hg : x.fm.a.gs.length ≤ 1000000) (h0 : 0 ≤ x.fm.a.heard) (hn : now ≤ 18446744073709551615) : XF Tryz.prog W 42 #[.pointer (some ⟨r, 0, none⟩), .int .u64 now] (x.blks r L) (fun v L' => v = .bool (tickA x.fm.a now) ∧ ∃ y : Fm, y.Ok ∧ y.a = tickF x.fm.a now ∧ L' = (Rm.mk x.ro x.fr y x.mb x.mo x.ws).blks r L) := by
  refine xf_enter (args := [_, _]) Tryz.func42 rfl Tryz.ntmps42 rfl ?_
  focus
    refine xc_seq ?_
    refine xc_region ?_
    refine xo_rd (rd_assign rfl) rfl ?_
    refine xo_nil ?_
    refine xq_seq ?_
    refine xc_seq ?_
    refine xc_region ?_
    refine xo_rd (rd_move rfl) rfl ?_
    refine xo_rd (rd_nenil rfl) rfl ?_
    refine xo_rd (rd_move rfl) rfl ?_
    refine xo_grd rfl rfl (rd_move rfl) rfl ?_
    refine xo_grd rfl rfl (rd_nilCheck rfl) rfl ?_
    refine xo_grd rfl rfl (rd_fieldAddr rfl) rfl ?_
    refine xo_grd rfl rfl (rd_load1 rfl (Cl.o0 rfl)) rfl ?_
    refine xo_grd rfl rfl (rd_move rfl) rfl ?_
    refine xo_gef rfl rfl rfl (ef_call rfl (XF.mono (xr_fl r x (fun L => xf_Tick x.fr x.fm hx.fm now hg h0 hn)) ?_))
    rintro v L' ⟨rfl, y, hy, hya, rfl⟩
    refine xo_rd (rd_pickt rfl rfl) rfl ?_
    refine xo_rd (rd_assign rfl) rfl ?_
    refine xo_nil ?_
    refine xq_seq ?_
    refine xc_ret ?_
  exact xq_ret1 (.inl rfl) Tryz.results42 rfl ⟨rfl, y, hy, hya, rfl⟩
end Go.Proofs.YtmdeajdaeihniaaGreat.X
/-
  Chapter 25: who waits; what somebody watches; for whom something holds: walks of my own.
-/
namespace Go.Proofs.YtmdeajdaeihniaaGreat.X
open Go Go.RowKit
set_option linter.unusedVariables false
set_option linter.unusedSimpArgs false
/-- The state of a row of numbers that grows. -/
structure NrS where
  i : Nat
  p : Option Addr
  c : Nat
  l : List Blk
set_option maxHeartbeats 800000 in
theorem xf_RWaiting {W : World} {L : List Blk} (r : Nat) (x : Rm) (hx : x.Ok) (hu : ∀ w, w ∈ x.fm.a.wt → 0 ≤ w ∧ w ≤ 4294967295) : XF Tryz.prog W 51 #[.pointer (some ⟨r, 0, none⟩)] (x.blks r L) (fun v L' => ∃ p k l, v = .slice p x.fm.a.wt.length k ∧ SlQ 1 3 (.slice p x.fm.a.wt.length k) x.fm.a.wt.length (ints .i64 x.fm.a.wt) l ∧ L' = l ++ x.blks r L) := by
  have hwl : x.fm.a.wt.length ≤ 32 := by have := hx.fm.wb; have := hx.fm.bd; omega
  obtain ⟨wt, hwt⟩ : ∃ wt, x.fm.a.wt = wt := ⟨_, rfl⟩
  have hwait := xf_Waiting (W := W) (L := x.blks r L) x.fr x.fm (Rm.fr' (L := L) (r := r) hx fun _ h => h) (by omega)
  rw [hwt] at hwait hu hwl ⊢
  refine xf_enter (args := [_]) Tryz.func51 rfl Tryz.ntmps51 rfl ?_
  focus
    refine xc_seq ?_
    refine xc_region ?_
    refine xo_rd (rd_assign rfl) rfl ?_
    refine xo_nil ?_
    refine xq_seq ?_
    refine xc_seq ?_
    refine xc_seq ?_
    refine xc_region ?_
    refine xo_rd (rd_move rfl) rfl ?_
    refine xo_rd (rd_eqnil rfl) rfl ?_
    refine xo_nil ?_
    refine xq_seq ?_
    refine xc_condf rfl ?_
    refine xc_skip ?_
    refine xq_seq ?_
    refine xc_seq ?_
    refine xc_seq ?_
    refine xc_region ?_
    refine xo_rd (rd_move rfl) rfl ?_
    refine xo_rd (rd_nilCheck rfl) rfl ?_
    refine xo_rd (rd_fieldAddr rfl) rfl ?_
    refine xo_rd (rd_load1 rfl (Cl.o0 rfl)) rfl ?_
    refine xo_ef rfl (ef_call rfl (XF.mono (hwait) ?_))
    rintro v L' ⟨q, k, l, rfl, hO, rfl⟩
    refine xo_rd (rd_len rfl) rfl ?_
    refine xo_rd (rd_move rfl) rfl ?_
    refine xo_nil ?_
    refine xq_seq ?_
    refine xc_block ?_
  refine xc_loopI (ι := NrS) (fun s => s.i ≤ wt.length ∧ SlQ 1 3 (.slice s.p s.i s.c) s.i (ints .i64 (wt.take s.i)) s.l) (fun s => wt.length - s.i) (fun s => s.l ++ (l ++ x.blks r L)) (fun s => [(2, .slice s.p s.i s.c), (11, .slice q wt.length k), (12, .int .i64 wt.length), (13, .int .i64 s.i)]) ⟨0, none, 0, []⟩ ⟨Nat.zero_le _, SlQ.nil⟩ rfl (by repeat (first | exact keep_nil | refine keep_cons rfl ?_)) ?_
  rintro ⟨i, p2, c2, l2⟩ ⟨hi, hsl⟩
  dsimp only at hi hsl ⊢
  by_cases hin : i < wt.length
  · have hrs : Rs W (l2 ++ (l ++ x.blks r L)) q (ints .u32 wt) := hO.rs fun z hz => List.mem_append_right _ (List.mem_append_left _ hz)
    obtain ⟨b, o, hpb, hc⟩ := hrs.int (i := i) (by omega)
    subst hpb
    have hui := hu wt[i] (List.getElem_mem _)
    have htk : wt.take (i + 1) = wt.take i ++ [wt[i]] := by rw [List.take_add_one, List.getElem?_eq_getElem hin]; rfl
    generalize wt[i] = w at *
    focus
      refine xc_seq ?_
      refine xc_region ?_
      refine xo_rd (rd_lss rfl rfl) rfl ?_
      refine xo_nil ?_
      refine xq_seq ?_
      refine xc_seq ?_
      refine xc_dec rfl (fun hz1 => ?_) (fun hz1 => (by exfalso; omega))
      refine xc_skip ?_
      refine xq_seq ?_
      refine xc_seq ?_
      refine xc_block ?_
      refine xc_seq ?_
      refine xc_region ?_
      refine xo_rd (rd_indexAddr rfl rfl (by omega) (by omega)) rfl ?_
      refine xo_rd (rd_load1 rfl hc) rfl ?_
      refine xo_rd (rd_assign rfl) rfl ?_
      refine xo_nil ?_
      refine xq_seq ?_
      refine xc_region ?_
      refine xo_rd (rd_move rfl) rfl ?_
      refine xo_rd (rd_move rfl) rfl ?_
      refine xo_rd (rd_convn rfl (by omega) (by omega)) rfl ?_
      refine xo_ef rfl (ef_buildL (T := 50) (len := 1) (s := 1) (cells := (ints .i64 [w]).toArray) rfl (by decide) (by decide) (by kernel_rfl) fun r20 => ?_)
      refine xo_ef rfl (ef_appendQS [_] (l ++ x.blks r L) l2 (news := ints .i64 [w]) rfl rfl hsl rfl rs_cons rfl rfl (by decide) (by omega) (by omega) fun p3 c3 l3 hO3 hk3 => ?_)
      refine xo_rd (rd_assign rfl) rfl ?_
      refine xo_nil ?_
      refine xq_block ?_
      refine xq_seq ?_
      refine xc_region ?_
      refine xo_rd (rd_addn rfl rfl (by omega) (by omega)) rfl ?_
      refine xo_rd (rd_move rfl) rfl ?_
      refine xo_nil ?_
    refine xq_sub (List.sublist_cons_self _ _) (xq_roundI (⟨i + 1, p3, c3, l3⟩ : NrS) ⟨by dsimp only; omega, by dsimp only; rw [htk, ints_app]; exact hO3⟩ (by dsimp only; omega) rfl (by repeat (first | exact keep_nil | refine keep_cons rfl ?_)))
  · have hiw : i = wt.length := by omega
    subst hiw
    rw [List.take_length] at hsl
    focus
      refine xc_seq ?_
      refine xc_region ?_
      refine xo_rd (rd_lss rfl rfl) rfl ?_
      refine xo_nil ?_
      refine xq_seq ?_
      refine xc_seq ?_
      refine xc_dec rfl (fun h1 => (by exfalso; omega)) (fun h1 => ?_)
      refine xc_exit ?_
      refine xq_then_exit ?_
      refine xq_then_exit ?_
      refine xq_block_hit ?_
      refine xq_seq ?_
      refine xc_seq ?_
      refine xc_region ?_
      refine xo_rd (rd_move rfl) rfl ?_
      refine xo_rd (rd_assign rfl) rfl ?_
      refine xo_nil ?_
      refine xq_seq ?_
      refine xc_ret ?_
    exact xq_sub ((List.sublist_append_right l _).append_left l2) (xq_ret1 (.inl rfl) Tryz.results51 rfl ⟨p2, c2, l2, rfl, hsl, rfl⟩)
theorem xf_RWaitingN {W : World} {L : List Blk} : XF Tryz.prog W 51 #[.pointer none] L (fun v L' => v = .slice none 0 0 ∧ L' = L) := by
  refine xf_enter (args := [_]) Tryz.func51 rfl Tryz.ntmps51 rfl ?_
  focus
    refine xc_seq ?_
    refine xc_region ?_
    refine xo_rd (rd_assign rfl) rfl ?_
    refine xo_nil ?_
    refine xq_seq ?_
    refine xc_seq ?_
    refine xc_seq ?_
    refine xc_region ?_
    refine xo_rd (rd_move rfl) rfl ?_
    refine xo_rd (rd_eqnil rfl) rfl ?_
    refine xo_nil ?_
    refine xq_seq ?_
    refine xc_condt rfl ?_
    refine xc_seq ?_
    refine xc_region ?_
    refine xo_rd (rd_assign rfl) rfl ?_
    refine xo_nil ?_
    refine xq_seq ?_
    refine xc_ret ?_
    refine xq_then_ret ?_
  exact xq_ret1 (.inl rfl) Tryz.results51 rfl ⟨rfl, rfl⟩
def wEnc (ct : Bool) (p : Option Addr) (n c : Nat) : List Value := [.bool ct, .slice p n c]
set_option maxHeartbeats 800000 in
theorem xf_copied {W : World} {L : List Blk} (ct : Bool) (p : Option Addr) (n c : Nat) (cs : List Int) (hn : cs.length = n) (hr : Rs W L p (ints .i64 cs)) (hm : n ≤ 1000000) : XF Tryz.prog W 57 #[.agg (wEnc ct p n c).toArray] L (fun v L' => ∃ q k l, v = .agg (wEnc ct q n k).toArray ∧ SlO 1 3 (.slice q n k) n (ints .i64 cs) l ∧ L' = l ++ L) := by
  refine xf_enter (args := [_]) Tryz.func57 rfl Tryz.ntmps57 rfl ?_
  focus
    refine xc_seq ?_
    refine xc_region ?_
    refine xo_ef rfl (ef_box rfl fun r1 => ?_)
    refine xo_ef rfl (ef_alloc fun r2 => ?_)
    refine xo_nil ?_
    refine xq_seq ?_
  focus
    refine xc_seq ?_
    refine xc_drawM [0, 1, 0, 4, 8, 18, 63] [0, 1, 0, 4, 8, 18, 63] ((r1, Obj.cells (Value.agg (wEnc ct p n c).toArray).cells 64 (0, 0)) :: L) (by kernel_rfl) (by kernel_rfl) (by kernel_rfl) ?_
    refine xm_take 0 (m' := 1) rfl (by kernel_rfl) Sb.a (rd_fieldAddr rfl) rfl (by kernel_rfl) ?_
    refine xm_take 1 (m' := 3) rfl (by kernel_rfl) Sb.a (rd_load1 rfl (Cl.o0 rfl)) rfl (by kernel_rfl) ?_
    refine xm_take 2 (m' := 7) rfl (by kernel_rfl) Sb.a (rd_fieldAddr rfl) rfl (by kernel_rfl) ?_
    refine xm_take 3 (m' := 15) rfl (by kernel_rfl) Sb.a (rd_load1 rfl (Cl.o0 rfl)) rfl (by kernel_rfl) ?_
    refine xm_one 4 (m' := 31) rfl (by kernel_rfl) rfl (by kernel_rfl) (ef_call rfl (XF.mono (xf_cloneI p n c (ints .i64 cs) (by simp [ints, hn]) (hr.mono (by intro z hz; simp [hz])) (ints_one _ _) (by omega)) ?_))
    rintro v L' ⟨q, k, l, rfl, hO, hk, rfl⟩
    refine xmx_seg [_, _] l _ ?_
    refine ⟨Sb.a, ?_⟩
    refine xm_take 5 (m' := 63) rfl (by kernel_rfl) Sb.a (rd_cast (v' := .agg (wEnc ct q n k).toArray) (rd_build (T := 64) rfl rfl rfl) (by kernel_rfl)) rfl (by kernel_rfl) ?_
    refine xm_one 6 (m' := 127) rfl (by kernel_rfl) rfl (by kernel_rfl) (ef_storeB [] _ rfl rfl (by first | rfl | assumption) rfl rfl rfl ?_)
    refine ⟨Sb.a, ?_⟩
    refine xm_done (by kernel_rfl) ?_
    refine xq_seq ?_
    refine xc_ret ?_
  all_goals exact xq_retB (.inl rfl) Tryz.results57 rfl Kn.o0 rfl (List.sublist_append_right [_, _] _) ⟨q, k, l, rfl, hO, rfl⟩
def wz : Value := .agg (wEnc false none 0 0).toArray
/-- What is watched, told of an id. -/
def wgA (ws : List Wa) (id : Int) : Wa := (wfA ws id).getD ⟨id, false, []⟩
theorem watF_a (ws : List Wm) (id : Int) : (watF ws id).map Wm.a = wfA (ws.map Wm.a) id := by
  unfold watF wfA
  rw [List.find?_map]
  rfl
theorem watV_some (ws : List Wm) (id : Int) : (watV ws id).isSome = (wfA (ws.map Wm.a) id).isSome := by
  rw [← watF_a]; unfold watV; rw [Option.isSome_map, Option.isSome_map]
/-- What a lookup gives. -/
theorem watV_get {W : World} {L : List Blk} (ws : List Wm) (h : ∀ w, w ∈ ws → w.Ok) (hs : ∀ z, z ∈ wlb ws → z ∈ L) (id : Int) : ∃ p c, (watV ws id).getD wz = .agg (wEnc (wgA (ws.map Wm.a) id).ct p (wgA (ws.map Wm.a) id).cs.length c).toArray ∧ Rs W L p (ints .i64 (wgA (ws.map Wm.a) id).cs) ∧ (wgA (ws.map Wm.a) id).cs.length ≤ 1000000 := by
  unfold wgA
  rw [← watF_a]
  unfold watV
  cases hf : watF ws id with
  | none => exact ⟨none, 0, rfl, Rs.nil, Nat.zero_le _⟩
  | some w =>
    have hm := List.mem_of_find?_eq_some hf
    exact ⟨w.p, w.c, rfl, (h w hm).sl.rs fun z hz => hs z (List.mem_flatMap.2 ⟨w, hm, hz⟩), (h w hm).few⟩
theorem Rm.wsub {r : Nat} {x : Rm} {L : List Blk} : ∀ z, z ∈ wlb x.ws → z ∈ x.blks r L := fun z hz => List.mem_cons_of_mem _ (List.mem_cons_of_mem _ (List.mem_append_left _ hz))
set_option maxHeartbeats 800000 in
theorem xf_RWatch {W : World} {L : List Blk} (r : Nat) (x : Rm) (hx : x.Ok) (id : Int) : XF Tryz.prog W 21 #[.pointer (some ⟨r, 0, none⟩), .int .i64 id] (x.blks r L) (fun v L' => ∃ q k l, v = .tuple #[.agg (wEnc (wgA x.was id).ct q (wgA x.was id).cs.length k).toArray, .bool (wfA x.was id).isSome] ∧ SlO 1 3 (.slice q (wgA x.was id).cs.length k) (wgA x.was id).cs.length (ints .i64 (wgA x.was id).cs) l ∧ L' = l ++ x.blks r L) := by
  obtain ⟨p, c, hv, hrs, hl⟩ := watV_get (W := W) (L := x.blks r L) x.ws hx.wo Rm.wsub id
  have hs := watV_some x.ws id
  change (watV x.ws id).isSome = (wfA x.was id).isSome at hs
  change (watV x.ws id).getD wz = .agg (wEnc (wgA x.was id).ct p (wgA x.was id).cs.length c).toArray at hv
  change Rs W _ p (ints .i64 (wgA x.was id).cs) at hrs
  change (wgA x.was id).cs.length ≤ 1000000 at hl
  generalize wgA x.was id = w at *
  generalize (wfA x.was id).isSome = b at *
  refine xf_enter (args := [_, _]) Tryz.func21 rfl Tryz.ntmps21 rfl ?_
  focus
    refine xc_seq ?_
    refine xc_region ?_
    refine xo_ef rfl (ef_alloc fun r4 => ?_)
    refine xo_rd (rd_assign rfl) rfl ?_
    refine xo_nil ?_
    refine xq_seq ?_
    refine xc_seq ?_
    refine xc_seq ?_
    refine xc_region ?_
    refine xo_rd (rd_move rfl) rfl ?_
    refine xo_rd (rd_eqnil rfl) rfl ?_
    refine xo_nil ?_
    refine xq_seq ?_
    refine xc_condf rfl ?_
    refine xc_skip ?_
    refine xq_seq ?_
    refine xc_seq ?_
    refine xc_region ?_
    refine xo_rd (rd_move rfl) rfl ?_
    refine xo_rd (rd_nilCheck rfl) rfl ?_
    refine xo_rd (rd_fieldAddr rfl) rfl ?_
    refine xo_rd (rd_load1 rfl (Cl.o1 rfl)) rfl ?_
    refine xo_rd (rd_move rfl) rfl ?_
    refine xo_rd (rd_cast (v' := .tuple #[.agg (wEnc w.ct p w.cs.length c).toArray, .bool b]) (rd_lookupOk hx.mp rfl rfl (Rm.kn (r := r) (L := L) (by intro z hz; simp [hz]))) (by rw [← hv, ← hs]; rfl)) rfl ?_
    refine xo_rd (rd_move rfl) rfl ?_
    refine xo_rd (rd_extract rfl rfl) rfl ?_
    refine xo_rd (rd_extract rfl rfl) rfl ?_
    refine xo_ef rfl (ef_alloc fun r6 => ?_)
    refine xo_ef rfl (ef_storeB [] _ rfl rfl (by first | rfl | assumption) rfl rfl rfl ?_)
    refine xo_rd (rd_assign rfl) rfl ?_
    refine xo_nil ?_
    refine xq_seq ?_
  focus
    refine xc_seq ?_
    refine xc_region ?_
    refine xo_rd (rd_loadB rfl Kn.o0 (by rfl)) rfl ?_
    refine xo_ef rfl (ef_call rfl (XF.mono (xf_copied w.ct p w.cs.length c w.cs rfl (hrs.mono (by intro z hz; simp [hz])) hl) ?_))
    rintro v L' ⟨q, k, l, rfl, hO, rfl⟩
    refine xo_seg [_, _] l _ ?_
    refine xo_rd (rd_move rfl) rfl ?_
    refine xo_ef rfl (ef_storeB [_] _ rfl rfl (by first | rfl | assumption) rfl rfl rfl ?_)
    refine xo_rd (rd_assign rfl) rfl ?_
    refine xo_nil ?_
    refine xq_seq ?_
    refine xc_ret ?_
  exact xq_retB2 (.inl rfl) Tryz.results21 rfl rfl Kn.o1 rfl (List.sublist_append_right [_, _] _) ⟨q, k, l, rfl, hO, rfl⟩
theorem xf_RWatchN {W : World} {L : List Blk} (id : Int) : XF Tryz.prog W 21 #[.pointer none, .int .i64 id] L (fun v L' => v = .tuple #[wz, .bool false] ∧ L' = L) := by
  refine xf_enter (args := [_, _]) Tryz.func21 rfl Tryz.ntmps21 rfl ?_
  focus
    refine xc_seq ?_
    refine xc_region ?_
    refine xo_ef rfl (ef_alloc fun r4 => ?_)
    refine xo_rd (rd_assign rfl) rfl ?_
    refine xo_nil ?_
    refine xq_seq ?_
    refine xc_seq ?_
    refine xc_seq ?_
    refine xc_region ?_
    refine xo_rd (rd_move rfl) rfl ?_
    refine xo_rd (rd_eqnil rfl) rfl ?_
    refine xo_nil ?_
    refine xq_seq ?_
    refine xc_condt rfl ?_
    refine xc_seq ?_
    refine xc_region ?_
    refine xo_rd (rd_cast (v' := .agg (wEnc false none 0 0).toArray) (rd_build (T := 64) rfl rfl rfl) (by kernel_rfl)) rfl ?_
    refine xo_ef rfl (ef_storeB [] _ rfl rfl (by first | rfl | assumption) rfl rfl rfl ?_)
    refine xo_rd (rd_assign rfl) rfl ?_
    refine xo_nil ?_
    refine xq_seq ?_
    refine xc_ret ?_
    refine xq_then_ret ?_
  exact xq_retB2 (.inl rfl) Tryz.results21 rfl rfl Kn.o0 rfl (List.sublist_cons_self _ _) ⟨rfl, rfl⟩
theorem xf_view1 {W : World} {L : List Blk} (id : Int) (ct : Bool) (p : Option Addr) (n c : Nat) (cs : List Int) (hn : cs.length = n) (hr : Rs W L p (ints .i64 cs)) (hm : n ≤ 1000000) (q : Nat) (y : Int) (hq : Cl W L q 0 (.int .i64 y)) : XF Tryz.prog W 62 #[.int .i64 id, .agg (wEnc ct p n c).toArray, .pointer (some ⟨q, 0, none⟩)] L (fun v L' => v = .bool (decide (0 ≤ ixOf cs y)) ∧ L' = L) := by
  refine xf_enter (args := [_, _, _]) Tryz.func62 rfl Tryz.ntmps62 rfl ?_
  focus
    refine xc_seq ?_
    refine xc_region ?_
    refine xo_ef rfl (ef_box rfl fun r4 => ?_)
    refine xo_rd (rd_assign rfl) rfl ?_
    refine xo_nil ?_
    refine xq_seq ?_
    refine xc_seq ?_
    refine xc_region ?_
    refine xo_rd (rd_fieldAddr rfl) rfl ?_
    refine xo_rd (rd_load1 rfl (Cl.o0 rfl)) rfl ?_
    refine xo_rd (rd_load1 rfl (hq.mono (by intro z hz; simp [hz]))) rfl ?_
    refine xo_ef rfl (ef_call rfl (XF.mono (xf_containsI p n c cs y hn (hr.mono (by intro z hz; simp [hz])) (by omega)) ?_))
    rintro v L' ⟨rfl, rfl⟩
    refine xo_rd (rd_assign rfl) rfl ?_
    refine xo_nil ?_
    refine xq_seq ?_
    refine xc_ret ?_
  exact xq_sub (List.sublist_append_right [_] _) (xq_ret1 (.inl rfl) Tryz.results62 rfl ⟨rfl, rfl⟩)
theorem xf_aud1 {W : World} {L : List Blk} (id : Int) (ct : Bool) (p : Option Addr) (n c : Nat) (q q2 : Nat) (he : Bool) (who : Int) (hw : 0 ≤ who ∧ who ≤ 4294967295) (hq : Cl W L q 0 (.bool he)) (hq2 : Cl W L q2 1 (.int .u32 who)) : XF Tryz.prog W 61 #[.int .i64 id, .agg (wEnc ct p n c).toArray, .pointer (some ⟨q, 0, none⟩), .pointer (some ⟨q2, 0, none⟩)] L (fun v L' => v = .bool (ct && !(he && decide (who = id))) ∧ L' = L) := by
  refine xf_enter (args := [_, _, _, _]) Tryz.func61 rfl Tryz.ntmps61 rfl ?_
  cases ct with
  | false =>
    focus
      refine xc_seq ?_
      refine xc_region ?_
      refine xo_ef rfl (ef_box rfl fun r5 => ?_)
      refine xo_rd (rd_assign rfl) rfl ?_
      refine xo_nil ?_
      refine xq_seq ?_
      refine xc_seq ?_
      refine xc_region ?_
      refine xo_rd (rd_fieldAddr rfl) rfl ?_
      refine xo_rd (rd_load1 rfl (Cl.o0 rfl)) rfl ?_
      refine xo_rd (rd_move rfl) rfl ?_
      refine xo_gskip rfl rfl rfl rfl ?_
      refine xo_gskip rfl rfl rfl rfl ?_
      refine xo_gskipU rfl rfl rfl ?_
      refine xo_gskipU rfl rfl rfl ?_
      refine xo_gskipU rfl rfl rfl ?_
      refine xo_gskipU rfl rfl rfl ?_
      refine xo_gskipU rfl rfl rfl ?_
      refine xo_gskip rfl rfl rfl rfl ?_
      refine xo_gskip rfl rfl rfl rfl ?_
      refine xo_rd (rd_pickf rfl rfl) rfl ?_
      refine xo_rd (rd_assign rfl) rfl ?_
      refine xo_nil ?_
      refine xq_seq ?_
      refine xc_ret ?_
    exact xq_sub (List.sublist_append_right [_] _) (xq_ret1 (.inl rfl) Tryz.results61 rfl ⟨rfl, rfl⟩)
  | true =>
    cases he with
    | false =>
      focus
        refine xc_seq ?_
        refine xc_region ?_
        refine xo_ef rfl (ef_box rfl fun r5 => ?_)
        refine xo_rd (rd_assign rfl) rfl ?_
        refine xo_nil ?_
        refine xq_seq ?_
        refine xc_seq ?_
        refine xc_region ?_
        refine xo_rd (rd_fieldAddr rfl) rfl ?_
        refine xo_rd (rd_load1 rfl (Cl.o0 rfl)) rfl ?_
        refine xo_rd (rd_move rfl) rfl ?_
        refine xo_grd rfl rfl (rd_load1 rfl (hq.mono (by intro z hz; simp [hz]))) rfl ?_
        refine xo_grd rfl rfl (rd_move rfl) rfl ?_
        refine xo_gskip rfl rfl rfl rfl ?_
        refine xo_gskip rfl rfl rfl rfl ?_
        refine xo_gskip rfl rfl rfl rfl ?_
        refine xo_gskip rfl rfl rfl rfl ?_
        refine xo_gskip rfl rfl rfl rfl ?_
        refine xo_grd rfl rfl (rd_pickf rfl rfl) rfl ?_
        refine xo_grd rfl rfl (rd_not rfl) rfl ?_
        refine xo_rd (rd_pickt rfl rfl) rfl ?_
        refine xo_rd (rd_assign rfl) rfl ?_
        refine xo_nil ?_
        refine xq_seq ?_
        refine xc_ret ?_
      exact xq_sub (List.sublist_append_right [_] _) (xq_ret1 (.inl rfl) Tryz.results61 rfl ⟨rfl, rfl⟩)
    | true =>
      focus
        refine xc_seq ?_
        refine xc_region ?_
        refine xo_ef rfl (ef_box rfl fun r5 => ?_)
        refine xo_rd (rd_assign rfl) rfl ?_
        refine xo_nil ?_
        refine xq_seq ?_
        refine xc_seq ?_
        refine xc_region ?_
        refine xo_rd (rd_fieldAddr rfl) rfl ?_
        refine xo_rd (rd_load1 rfl (Cl.o0 rfl)) rfl ?_
        refine xo_rd (rd_move rfl) rfl ?_
        refine xo_grd rfl rfl (rd_load1 rfl (hq.mono (by intro z hz; simp [hz]))) rfl ?_
        refine xo_grd rfl rfl (rd_move rfl) rfl ?_
        refine xo_grd rfl rfl (rd_fieldAddr rfl) rfl ?_
        refine xo_grd rfl rfl (rd_load1 rfl (hq2.mono (by intro z hz; simp [hz]))) rfl ?_
        refine xo_grd rfl rfl (rd_convn rfl (by omega) (by omega)) rfl ?_
        refine xo_grd rfl rfl (rd_move rfl) rfl ?_
        refine xo_grd rfl rfl (rd_eql rfl rfl) rfl ?_
        refine xo_grd rfl rfl (rd_pickt rfl rfl) rfl ?_
        refine xo_grd rfl rfl (rd_not rfl) rfl ?_
        refine xo_rd (rd_pickt rfl rfl) rfl ?_
        refine xo_rd (rd_assign rfl) rfl ?_
        refine xo_nil ?_
        refine xq_seq ?_
        refine xc_ret ?_
      exact xq_sub (List.sublist_append_right [_] _) (xq_ret1 (.inl rfl) Tryz.results61 rfl ⟨rfl, rfl⟩)
theorem xf_58 {W : World} {L : List Blk} (FN : Nat) [hC : Cf Tryz.prog FN] (cap : List Value) (id : Int) (q3 q2 r mb : Nat) (mo : Obj) (f : Int → Option Value) (sz : Nat) (hm : MpIs .i64 mo f sz) (h3 : Cl W L q3 0 (.func (.func FN) #[] cap.toArray)) (h2 : Cl W L q2 0 (.pointer (some ⟨r, 0, none⟩))) (hr : Cl W L r 2 (.map (some mb))) (hk : Kn W L mb mo) (b : Bool)
    (hf : XF Tryz.prog W FN ([] ++ [Value.int .i64 id, (f id).getD wz] ++ cap).toArray L (fun v L' => v = .bool b ∧ L' = L)) : XF Tryz.prog W 98 #[.int .i64 id, .pointer (some ⟨q3, 0, none⟩), .pointer (some ⟨q2, 0, none⟩)] L (fun v L' => v = .bool (!b) ∧ L' = L) := by
  refine xf_enter (args := [_, _, _]) Tryz.func98 rfl Tryz.ntmps98 rfl ?_
  focus
    refine xc_seq ?_
    refine xc_region ?_
    refine xo_rd (rd_assign rfl) rfl ?_
    refine xo_nil ?_
    refine xq_seq ?_
    refine xc_seq ?_
    refine xc_drawML [0, 0, 0, 4, 8, 16, 0, 96, 131, 256, 1023] [0, 0, 0, 4, 8, 16, 0, 96, 131, 256, 1023] (by kernel_rfl) (by kernel_rfl) (by kernel_rfl) ?_
    refine xm_take 0 (m' := 1) rfl (by kernel_rfl) Sb.a (rd_load1 rfl h3) rfl (by kernel_rfl) ?_
    refine xm_take 1 (m' := 3) rfl (by kernel_rfl) Sb.a (rd_move rfl) rfl (by kernel_rfl) ?_
    refine xm_take 2 (m' := 7) rfl (by kernel_rfl) Sb.a (rd_load1 rfl h2) rfl (by kernel_rfl) ?_
    refine xm_take 3 (m' := 15) rfl (by kernel_rfl) Sb.a (rd_nilCheck rfl) rfl (by kernel_rfl) ?_
    refine xm_take 4 (m' := 31) rfl (by kernel_rfl) Sb.a (rd_fieldAddr rfl) rfl (by kernel_rfl) ?_
    refine xm_take 5 (m' := 63) rfl (by kernel_rfl) Sb.a (rd_load1 rfl hr) rfl (by kernel_rfl) ?_
    refine xm_take 6 (m' := 127) rfl (by kernel_rfl) Sb.a (rd_move rfl) rfl (by kernel_rfl) ?_
    refine xm_take 7 (m' := 255) rfl (by kernel_rfl) Sb.a (rd_lookup hm rfl rfl hk) rfl (by kernel_rfl) ?_
    refine xm_one 8 (m' := 511) rfl (by kernel_rfl) rfl (by kernel_rfl) (ef_callk (r := .bool b) (vs := [.int .i64 id, (f id).getD wz]) (first := []) (cap := cap) rfl rfl hf ?_)
    refine ⟨Sb.a, ?_⟩
    refine xm_take 9 (m' := 1023) rfl (by kernel_rfl) Sb.a (rd_not rfl) rfl (by kernel_rfl) ?_
    refine xm_take 10 (m' := 2047) rfl (by kernel_rfl) Sb.a (rd_assign rfl) rfl (by kernel_rfl) ?_
    refine xm_done (by kernel_rfl) ?_
    refine xq_seq ?_
    refine xc_ret ?_
  all_goals exact xq_ret1 (.inl rfl) Tryz.results98 rfl ⟨rfl, rfl⟩
/-- Those for whom something holds, in order. -/
theorem xf_those {W : World} {L : List Blk} (FN : Nat) [hC : Cf Tryz.prog FN] (cap : List Value) (r : Nat) (x : Rm) (hx : x.Ok) (pd : Int → Bool) (hf : ∀ L' id, (∀ z, z ∈ x.blks r L → z ∈ L') → XF Tryz.prog W FN ([] ++ [Value.int .i64 id, (watV x.ws id).getD wz] ++ cap).toArray L' (fun v L'' => v = .bool (pd id) ∧ L'' = L')) :
    XF Tryz.prog W 60 #[.pointer (some ⟨r, 0, none⟩), .func (.func FN) #[] cap.toArray] (x.blks r L) (fun v L' => ∃ p k l, v = .slice p ((x.ro.ms.map Mb.id).filter pd).length k ∧ SlQ 1 3 (.slice p ((x.ro.ms.map Mb.id).filter pd).length k) ((x.ro.ms.map Mb.id).filter pd).length (ints .i64 ((x.ro.ms.map Mb.id).filter pd)) l ∧ L' = l ++ x.blks r L) := by
  have hlen : (x.ro.ms.map Mb.id).length = x.ro.ms.length := List.length_map ..
  have hl := hx.ro.fit.len
  have hl2 := hx.ro.fit.most
  refine xf_enter (args := [_, _]) Tryz.func60 rfl Tryz.ntmps60 rfl ?_
  focus
    refine xc_seq ?_
    refine xc_region ?_
    refine xo_ef rfl (ef_box rfl fun r2 => ?_)
    refine xo_ef rfl (ef_box rfl fun r3 => ?_)
    refine xo_rd (rd_assign rfl) rfl ?_
    refine xo_nil ?_
    refine xq_seq ?_
    refine xc_seq ?_
    refine xc_region ?_
    refine xo_rd (rd_load1 rfl (Cl.o1 rfl)) rfl ?_
    refine xo_ef rfl (ef_call rfl (XF.mono ((xf_RIds (L := [_, _] ++ L) r x hx).perm (x.front r [_, _] L)) ?_))
    rintro v L' ⟨p, k, l, rfl, hO, rfl⟩
    refine xo_rd (rd_makeFunc rfl rfl) rfl ?_
  have hsub : ∀ z, z ∈ x.blks r L → z ∈ x.blks r ([(r3, Obj.cells #[.func (.func FN) #[] cap.toArray] 123 (0, 0)), (r2, Obj.cells #[.pointer (some ⟨r, 0, none⟩)] 28 (0, 0))] ++ L) := fun z hz => (Rm.blks_sub r x [(r3, Obj.cells #[.func (.func FN) #[] cap.toArray] 123 (0, 0)), (r2, Obj.cells #[.pointer (some ⟨r, 0, none⟩)] 28 (0, 0))] L).subset hz
  have hdel := xf_deli58 (W := W) (R := x.blks r ([(r3, Obj.cells #[.func (.func FN) #[] cap.toArray] 123 (0, 0)), (r2, Obj.cells #[.pointer (some ⟨r, 0, none⟩)] 28 (0, 0))] ++ L)) p x.ro.ms.length k (x.ro.ms.map Mb.id) l hO.q hlen (fun id => !pd id) (by omega) r3 r2 (fun l' id _ => xf_58 FN cap id r3 r2 r x.mb x.mo (watV x.ws) x.ws.length hx.mp (Cl.own (List.mem_append_right _ ((Rm.sub r x _).subset (List.mem_cons_self))) rfl) (Cl.own (List.mem_append_right _ ((Rm.sub r x _).subset (List.mem_cons_of_mem _ List.mem_cons_self))) rfl) (Rm.cl (L := _) (fun z hz => List.mem_append_right _ hz) 2 _ rfl) (Rm.kn (r := r) (L := _) (fun z hz => List.mem_append_right _ hz)) (pd id) (hf _ id (fun z hz => List.mem_append_right _ (hsub z hz))))
  have hfl : (x.ro.ms.map Mb.id).filter (fun x => !!pd x) = (x.ro.ms.map Mb.id).filter pd := by simp
  rw [hfl] at hdel
  refine xo_ef rfl (ef_call rfl (hdel.mono ?_))
  rintro v L' ⟨l', rfl, hO', rfl⟩
  focus
    refine xo_rd (rd_assign rfl) rfl ?_
    refine xo_nil ?_
    refine xq_seq ?_
    refine xc_ret ?_
  exact xq_sub ((Rm.blks_sub r x [_, _] L).append_left l') (xq_ret1 (.inl rfl) Tryz.results60 rfl ⟨p, k, l', rfl, hO', rfl⟩)
end Go.Proofs.YtmdeajdaeihniaaGreat.X
