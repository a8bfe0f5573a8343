/-
  Texts of my own, put together: walks and laws for this seat. No condition.
-/
import Derived.Test.YtmdeajdaeihniaaGreatN13
import Derived.Test.YtmdeajdaeihniaaGreatRows
import Derived.Test.YtmdeajdaeihniaaGreatN7
/-
  Chapter 25: the calls by numbers: walks of my own.
-/
namespace Go.Proofs.YtmdeajdaeihniaaGreat.X
open Go Go.RowKit
set_option linter.unusedVariables false
set_option linter.unusedSimpArgs false
/-- What a call by numbers is. -/
structure AcL (W : World) (L : List Blk) (x : Ac) : Prop where
  r : Rs W L x.p (ints .i64 x.cs)
  c : x.cs.length ≤ x.c
  b : 0 ≤ x.by' ∧ x.by' ≤ 255
theorem AcL.mono {W : World} {L L' : List Blk} {x : Ac} (h : AcL W L x) (hm : ∀ z, z ∈ L → z ∈ L') : AcL W L' x := ⟨h.r.mono hm, h.c, h.b⟩
theorem xk_plays {W : World} {L : List Blk} (m q s : Int) (h0 : 0 ≤ s) (p : Option Addr) (n c : Nat) (xs : List Ac) (hx : xs.length = n) (hr : Rs W L p (xs.flatMap Ac.enc)) (hE : ∀ x, x ∈ xs → AcL W L x) :
    XF Tryz.prog W 3 #[.agg (cfgE m q s).toArray, .slice p n c] L (fun v L' => v = .bool true ∧ L' = L) :=
  xf_over fun w hw => plays1 m q s h0 p n c xs hx (hr.over hw) fun x hx => ⟨(hE x hx).r.over hw, (hE x hx).c, (hE x hx).b⟩
theorem xk_fits {W : World} {L : List Blk} (p : Option Addr) (n c : Nat) (xs : List Ac) (hx : xs.length = n) (hr : Rs W L p (xs.flatMap Ac.enc)) (hE : ∀ x, x ∈ xs → AcL W L x) :
    XF Tryz.prog W 13 #[.slice p n c] L (fun v L' => v = .bool true ∧ L' = L) :=
  xf_over fun w hw => fits1 p n c xs hx (hr.over hw) fun x hx => ⟨(hE x hx).r.over hw, (hE x hx).b⟩
theorem xk_none {W : World} {L : List Blk} (a : Ac) (hE : AcL W L a) :
    XF Tryz.prog W 14 #[.agg a.enc.toArray] L (fun v L' => v = .bool true ∧ L' = L) :=
  xf_over fun w hw => xf_RoomNone a (hE.r.over hw)
/-- The state of the calls by numbers. -/
structure ActS where
  i : Nat
  k : Int
  xs : List Ac
  p : Option Addr
  c : Nat
  l : List Blk
  N : List Blk
def ac0 (i n : Int) : Ac := ⟨0, ⟨i, 10 * (i + 1), 10 * i + 11, decide (i = n % 4)⟩, 0, 0, false, [], none, 0, 0⟩
def cs1 (k : Int) : List Int := [k / 11 % 5, k / 13 % 5, k / 17 % 5].take (k % 4 % 4 % 3).toNat
theorem cs1_len (k : Int) : (cs1 k).length = (k % 4 % 4 % 3).toNat := by
  unfold cs1
  rw [List.length_take]
  have : (k % 4 % 4 % 3).toNat ≤ 3 := by omega
  show min _ 3 = _
  omega
def mb1 (k : Int) : Mb := ⟨k / 3 % 7, k % 60, k / 2 % 60, decide (k % 3 = 0)⟩
def ac1 (k : Int) (m : Mb) (r : Nat) : Ac := ⟨k % 9, m, k / 3 % 5, k / 5 % 5, decide (k % 2 = 0), cs1 k, some ⟨r, 0, none⟩, 3, k / 7 % 4⟩
set_option maxHeartbeats 1600000 in
theorem xf_acts {W : World} {L : List Blk} (n : Int) (hn : 0 ≤ n ∧ n < 100003) :
    XF Tryz.prog W 12 #[.int .i64 n] L (fun v L' => ∃ xs p c N, v = .slice p (List.length xs) c ∧ xs.length = 24 ∧ (∀ W, Rs W (N ++ L) p (xs.flatMap Ac.enc) ∧ ∀ x, x ∈ xs → AcL W (N ++ L) x) ∧ L' = N ++ L) := by
  refine xf_enter (args := [_]) Tryz.func12 rfl Tryz.ntmps12 rfl ?_
  focus
    refine xc_seq ?_
    refine xc_region ?_
    refine xo_rd (rd_assign rfl) rfl ?_
    refine xo_nil ?_
    refine xq_seq ?_
    refine xc_seq ?_
    refine xc_region ?_
    refine xo_rd (rd_assign rfl) rfl ?_
    refine xo_nil ?_
    refine xq_seq ?_
    refine xc_seq ?_
    refine xc_seq ?_
    refine xc_region ?_
    refine xo_rd (rd_assign rfl) rfl ?_
    refine xo_nil ?_
    refine xq_seq ?_
    refine xc_block ?_
  refine xc_loopI (ι := ActS) (fun s => s.i ≤ 4 ∧ s.xs.length = s.i ∧ SlQ 10 52 (.slice s.p s.xs.length s.c) s.xs.length (s.xs.flatMap Ac.enc) s.l ∧ ∀ x, x ∈ s.xs → ∀ W L', AcL W L' x) (fun s => 4 - s.i) (fun s => s.l ++ L) (fun s => [(0, .int .i64 n), (3, .slice s.p s.xs.length s.c), (4, .int .i64 s.i)]) ⟨0, 0, [], none, 0, [], []⟩ ⟨Nat.zero_le _, rfl, SlQ.nil, (fun y h => by cases h)⟩ rfl (by repeat (first | exact keep_nil | refine keep_cons rfl ?_)) ?_
  rintro ⟨i, k, xs, p, c, l, N⟩ ⟨hi, hxl, hsl, hat⟩
  dsimp only at hi hxl hsl hat ⊢
  by_cases hin : i < 4
  · skip
    focus
      refine xc_seq ?_
      refine xc_seq ?_
      refine xc_region ?_
      refine xo_rd (rd_move rfl) rfl ?_
      refine xo_rd (rd_lss rfl rfl) rfl ?_
      refine xo_nil ?_
      refine xq_seq ?_
      refine xc_dec rfl (fun hz1 => ?_) (fun hz1 => (by exfalso; omega))
      refine xc_skip ?_
      refine xq_seq ?_
      refine xc_seq ?_
      refine xc_block ?_
      refine xc_region ?_
      refine xo_rd (rd_move rfl) rfl ?_
      refine xo_rd (rd_move rfl) rfl ?_
      refine xo_rd (rd_move rfl) rfl ?_
      refine xo_rd (rd_addn rfl rfl (by omega) (by omega)) rfl ?_
      refine xo_rd (rd_muln rfl rfl (by omega) (by omega)) rfl ?_
      refine xo_rd (rd_convn rfl (by omega) (by omega)) rfl ?_
      refine xo_rd (rd_move rfl) rfl ?_
      refine xo_rd (rd_muln rfl rfl (by omega) (by omega)) rfl ?_
      refine xo_rd (rd_addn rfl rfl (by omega) (by omega)) rfl ?_
      refine xo_rd (rd_convn rfl (by omega) (by omega)) rfl ?_
      refine xo_rd (rd_move rfl) rfl ?_
      refine xo_rd (rd_move rfl) rfl ?_
      refine xo_rd (rd_remn rfl rfl (by omega) (by omega)) rfl ?_
      refine xo_rd (rd_eql rfl rfl) rfl ?_
      refine xo_rd (rd_build rfl rfl rfl) rfl ?_
      refine xo_rd (rd_cast (v' := .agg (ac0 i n).enc.toArray) (rd_build (T := 52) rfl rfl rfl) (by kernel_rfl)) rfl ?_
      refine xo_ef rfl (ef_sliceA (vs := (ac0 i n).enc) rfl rfl (by rw [Ac.len]; decide) (by rw [Ac.len]; decide) fun r28 => ?_)
      refine xo_ef rfl (ef_appendQS [_] L l (news := (ac0 i n).enc) rfl rfl hsl rfl (Rs.fresh (List.Mem.head _)) rfl rfl (by decide) (by omega) (by omega) fun q2 k2 l2 hO2 hk2 => ?_)
      refine xo_rd (rd_assign rfl) rfl ?_
      refine xo_nil ?_
      refine xq_block ?_
      refine xq_seq ?_
      refine xc_region ?_
      refine xo_rd (rd_move rfl) rfl ?_
      refine xo_rd (rd_addn rfl rfl (by omega) (by omega)) rfl ?_
      refine xo_rd (rd_assign rfl) rfl ?_
      refine xo_nil ?_
    refine xq_sub (List.sublist_append_right [_] _) (xq_roundI (⟨i + 1, 0, xs ++ [ac0 i n], q2, k2, l2, []⟩ : ActS) ⟨by dsimp only; omega, by dsimp only; rw [List.length_append, hxl]; rfl, ?_, ?_⟩ (by dsimp only; omega) rfl ?_)
    · dsimp only
      rw [List.length_append, List.flatMap_append, List.flatMap_singleton]; exact hO2
    · intro z hz2 W L'
      rcases List.mem_append.1 hz2 with h2 | h2
      · exact hat z h2 W L'
      · rw [List.mem_singleton.1 h2]; exact ⟨Rs.nil, Nat.le_refl _, Int.le_refl 0, by show (0 : Int) ≤ 255; decide⟩
    · dsimp only
      rw [List.length_append]
      exact (by repeat (first | exact keep_nil | refine keep_cons rfl ?_))
  have hi4 : i = 4 := by omega
  subst hi4
  clear hin hi
  focus
    refine xc_seq ?_
    refine xc_seq ?_
    refine xc_region ?_
    refine xo_rd (rd_move rfl) rfl ?_
    refine xo_rd (rd_lss rfl rfl) rfl ?_
    refine xo_nil ?_
    refine xq_seq ?_
    refine xc_condf rfl ?_
    refine xc_exit ?_
    refine xq_then_exit ?_
    refine xq_then_exit ?_
    refine xq_block_hit ?_
    refine xq_seq ?_
    refine xc_seq ?_
    refine xc_region ?_
    refine xo_rd (rd_move rfl) rfl ?_
    refine xo_rd (rd_assign rfl) rfl ?_
    refine xo_nil ?_
    refine xq_seq ?_
    refine xc_seq ?_
    refine xc_seq ?_
    refine xc_region ?_
    refine xo_rd (rd_assign rfl) rfl ?_
    refine xo_nil ?_
    refine xq_seq ?_
    refine xc_block ?_
  refine xc_loopI (ι := ActS) (fun s => s.i ≤ 20 ∧ (0 ≤ s.k ∧ s.k < 100003) ∧ s.xs.length = 4 + s.i ∧ SlQ 10 52 (.slice s.p s.xs.length s.c) s.xs.length (s.xs.flatMap Ac.enc) s.l ∧ ∀ x, x ∈ s.xs → ∀ W L', (∀ z, z ∈ s.N → z ∈ L') → AcL W L' x) (fun s => 20 - s.i) (fun s => s.l ++ (s.N ++ L)) (fun s => [(3, .slice s.p s.xs.length s.c), (5, .int .i64 s.k), (6, .int .i64 s.i)]) ⟨0, n, xs, p, c, l, []⟩ ⟨Nat.zero_le _, hn, hxl, hsl, (fun y h W L' _ => hat y h W L')⟩ rfl (by repeat (first | exact keep_nil | refine keep_cons rfl ?_)) ?_
  clear hxl hsl hat hn
  rintro ⟨i, k, xs, p, c, l, N⟩ ⟨hi, hk, hxl, hsl, hat⟩
  dsimp only at hi hk hxl hsl hat ⊢
  by_cases hin : i < 20
  · skip
    focus
      refine xc_seq ?_
      refine xc_seq ?_
      refine xc_region ?_
      refine xo_rd (rd_move rfl) rfl ?_
      refine xo_rd (rd_lss rfl rfl) rfl ?_
      refine xo_nil ?_
      refine xq_seq ?_
      refine xc_dec rfl (fun hz1 => ?_) (fun hz1 => (by exfalso; omega))
      refine xc_skip ?_
      refine xq_seq ?_
      refine xc_seq ?_
      refine xc_block ?_
      refine xc_seq ?_
      refine xc_region ?_
      refine xo_rd (rd_move rfl) rfl ?_
      refine xo_rd (rd_remn rfl rfl (by omega) (by omega)) rfl ?_
      refine xo_rd (rd_move rfl) rfl ?_
      refine xo_rd (rd_quon rfl rfl (by omega) (by omega) (by omega) (by omega)) rfl ?_
      refine xo_rd (rd_remn rfl rfl (by omega) (by omega)) rfl ?_
      refine xo_rd (rd_move rfl) rfl ?_
      refine xo_rd (rd_quon rfl rfl (by omega) (by omega) (by omega) (by omega)) rfl ?_
      refine xo_rd (rd_remn rfl rfl (by omega) (by omega)) rfl ?_
      refine xo_rd (rd_move rfl) rfl ?_
      refine xo_rd (rd_remn rfl rfl (by omega) (by omega)) rfl ?_
      refine xo_rd (rd_eql rfl rfl) rfl ?_
      refine xo_rd (rd_move rfl) rfl ?_
      refine xo_rd (rd_quon rfl rfl (by omega) (by omega) (by omega) (by omega)) rfl ?_
      refine xo_rd (rd_remn rfl rfl (by omega) (by omega)) rfl ?_
      refine xo_rd (rd_convn rfl (by omega) (by omega)) rfl ?_
      refine xo_rd (rd_move rfl) rfl ?_
      refine xo_rd (rd_quon rfl rfl (by omega) (by omega) (by omega) (by omega)) rfl ?_
      refine xo_rd (rd_remn rfl rfl (by omega) (by omega)) rfl ?_
      refine xo_rd (rd_move rfl) rfl ?_
      refine xo_rd (rd_quon rfl rfl (by omega) (by omega) (by omega) (by omega)) rfl ?_
      refine xo_rd (rd_remn rfl rfl (by omega) (by omega)) rfl ?_
      refine xo_rd (rd_move rfl) rfl ?_
      refine xo_rd (rd_quon rfl rfl (by omega) (by omega) (by omega) (by omega)) rfl ?_
      refine xo_rd (rd_remn rfl rfl (by omega) (by omega)) rfl ?_
      refine xo_ef rfl (ef_buildL (T := 50) (len := 3) (s := 1) (cells := (ints .i64 [k / 11 % 5, k / 13 % 5, k / 17 % 5]).toArray) rfl (by decide) (by decide) (by kernel_rfl) fun r59 => ?_)
      refine xo_rd (rd_move rfl) rfl ?_
      refine xo_rd (rd_remn rfl rfl (by omega) (by omega)) rfl ?_
      refine xo_rd (rd_remn rfl rfl (by omega) (by omega)) rfl ?_
      refine xo_rd (rd_remn rfl rfl (by omega) (by omega)) rfl ?_
      refine xo_rd (rd_sliceHi rfl rfl (by omega) (by omega)) rfl ?_
      refine xo_rd (rd_cast (v' := .agg (ac1 k ⟨0, 0, 0, false⟩ r59).enc.toArray) (rd_build (T := 52) rfl rfl rfl) (by unfold ac1 Ac.enc; dsimp only; rw [cs1_len]; kernel_rfl)) rfl ?_
      refine xo_ef rfl (ef_alloc fun r7 => ?_)
      refine xo_ef rfl (ef_storeB [] _ rfl rfl (by first | rfl | assumption) rfl rfl rfl ?_)
      refine xo_nil ?_
      refine xq_seq ?_
      refine xc_seq ?_
      refine xc_region ?_
      refine xo_rd (rd_move rfl) rfl ?_
      refine xo_rd (rd_quon rfl rfl (by omega) (by omega) (by omega) (by omega)) rfl ?_
      refine xo_rd (rd_remn rfl rfl (by omega) (by omega)) rfl ?_
      refine xo_rd (rd_move rfl) rfl ?_
      refine xo_rd (rd_remn rfl rfl (by omega) (by omega)) rfl ?_
      refine xo_rd (rd_convn rfl (by omega) (by omega)) rfl ?_
      refine xo_rd (rd_move rfl) rfl ?_
      refine xo_rd (rd_quon rfl rfl (by omega) (by omega) (by omega) (by omega)) rfl ?_
      refine xo_rd (rd_remn rfl rfl (by omega) (by omega)) rfl ?_
      refine xo_rd (rd_convn rfl (by omega) (by omega)) rfl ?_
      refine xo_rd (rd_move rfl) rfl ?_
      refine xo_rd (rd_remn rfl rfl (by omega) (by omega)) rfl ?_
      refine xo_rd (rd_eql rfl rfl) rfl ?_
      refine xo_rd (rd_cast (v' := .agg (mb1 k).enc.toArray) (rd_build (T := 49) rfl rfl rfl) (by kernel_rfl)) rfl ?_
      refine xo_rd (rd_fieldAddr rfl) rfl ?_
      refine xo_ef rfl (ef_storeW [] _ 1 (vs := (mb1 k).enc) (cs := (ac1 k ⟨0, 0, 0, false⟩ r59).enc) (ws := (ac1 k (mb1 k) r59).enc) rfl rfl rfl rfl rfl (by show 1 + 4 ≤ 10; decide) (by kernel_rfl) ?_)
      refine xo_nil ?_
      refine xq_seq ?_
      refine xc_seq ?_
      refine xc_region ?_
      refine xo_rd (rd_move rfl) rfl ?_
      refine xo_rd (rd_loadB rfl Kn.o0 (by rfl)) rfl ?_
      refine xo_ef rfl (ef_sliceA (vs := (ac1 k (mb1 k) r59).enc) rfl rfl (by rw [Ac.len]; decide) (by rw [Ac.len]; decide) fun r83 => ?_)
      refine xo_ef rfl (ef_appendQS [_, _, _] (N ++ L) l (news := (ac1 k (mb1 k) r59).enc) rfl rfl hsl rfl (Rs.fresh (List.Mem.head _)) rfl rfl (by decide) (by omega) (by omega) fun q2 k2 l2 hO2 hk2 => ?_)
      refine xo_rd (rd_assign rfl) rfl ?_
      refine xo_nil ?_
      refine xq_seq ?_
      refine xc_region ?_
      refine xo_rd (rd_move rfl) rfl ?_
      refine xo_rd (rd_muln rfl rfl (by omega) (by omega)) rfl ?_
      refine xo_rd (rd_move rfl) rfl ?_
      refine xo_rd (rd_muln rfl rfl (by omega) (by omega)) rfl ?_
      refine xo_rd (rd_addn rfl rfl (by omega) (by omega)) rfl ?_
      refine xo_rd (rd_addn rfl rfl (by omega) (by omega)) rfl ?_
      refine xo_rd (rd_remn rfl rfl (by omega) (by omega)) rfl ?_
      refine xo_rd (rd_assign rfl) rfl ?_
      refine xo_nil ?_
      refine xq_block ?_
      refine xq_seq ?_
      refine xc_region ?_
      refine xo_rd (rd_move rfl) rfl ?_
      refine xo_rd (rd_addn rfl rfl (by omega) (by omega)) rfl ?_
      refine xo_rd (rd_assign rfl) rfl ?_
      refine xo_nil ?_
    refine xq_sub (List.sublist_append_right [_, _] _) (xq_perm (L' := l2 ++ (((r59, Obj.cells (ints .i64 [k / 11 % 5, k / 13 % 5, k / 17 % 5]).toArray 3 (0, 0)) :: N) ++ L)) (show ((r59, Obj.cells (ints .i64 [k / 11 % 5, k / 13 % 5, k / 17 % 5]).toArray 3 (0, 0)) :: (l2 ++ (N ++ L))).Perm _ from List.perm_middle.symm) ?_)
    refine xq_roundI (⟨i + 1, (k * 29 + 17 * i + 3) % 100003, xs ++ [ac1 k (mb1 k) r59], q2, k2, l2, (r59, Obj.cells (ints .i64 [k / 11 % 5, k / 13 % 5, k / 17 % 5]).toArray 3 (0, 0)) :: N⟩ : ActS) ⟨by dsimp only; omega, by dsimp only; omega, by dsimp only; rw [List.length_append, hxl]; rfl, ?_, ?_⟩ (by dsimp only; omega) rfl ?_
    · dsimp only
      rw [List.length_append, List.flatMap_append, List.flatMap_singleton]; exact hO2
    · intro z hz2 W L' h
      rcases List.mem_append.1 hz2 with h2 | h2
      · exact hat z h2 W L' fun z hz => h z (List.mem_cons_of_mem _ hz)
      · rw [List.mem_singleton.1 h2]
        have h3 : Rs W L' (some ⟨r59, 0, none⟩) (ints .i64 [k / 11 % 5, k / 13 % 5, k / 17 % 5]) := Rs.fresh (h _ List.mem_cons_self)
        refine ⟨?_, ?_, ?_⟩
        · show Rs W L' (some ⟨r59, 0, none⟩) (ints .i64 (cs1 k))
          unfold cs1
          rw [ints_take]
          exact h3.take _
        · show (cs1 k).length ≤ 3
          rw [cs1_len]; omega
        · show 0 ≤ k / 7 % 4 ∧ k / 7 % 4 ≤ 255
          omega
    · dsimp only
      rw [List.length_append]
      exact (by repeat (first | exact keep_nil | refine keep_cons rfl ?_))
  · skip
    focus
      refine xc_seq ?_
      refine xc_seq ?_
      refine xc_region ?_
      refine xo_rd (rd_move rfl) rfl ?_
      refine xo_rd (rd_lss rfl rfl) rfl ?_
      refine xo_nil ?_
      refine xq_seq ?_
      refine xc_dec rfl (fun h1 => (by exfalso; omega)) (fun h1 => ?_)
      refine xc_exit ?_
      refine xq_then_exit ?_
      refine xq_then_exit ?_
      refine xq_block_hit ?_
      refine xq_seq ?_
      refine xc_seq ?_
      refine xc_region ?_
      refine xo_rd (rd_move rfl) rfl ?_
      refine xo_rd (rd_assign rfl) rfl ?_
      refine xo_nil ?_
      refine xq_seq ?_
      refine xc_ret ?_
    refine xq_ret1 (.inl rfl) Tryz.results12 rfl ⟨xs, p, c, l ++ N, rfl, by omega, fun W => ⟨hsl.rs fun z hz => List.mem_append_left _ (List.mem_append_left _ hz), fun x hx => hat x hx W _ fun z hz => List.mem_append_left _ (List.mem_append_right _ hz)⟩, (List.append_assoc ..).symm⟩
end Go.Proofs.YtmdeajdaeihniaaGreat.X
/-
  RoomKnown: the examples of the chapter, calls by numbers, ids about the bounds; a closed statement, no condition.
-/
namespace Go.Proofs.YtmdeajdaeihniaaGreat.X
open Go Go.RowKit
set_option linter.unusedVariables false
set_option linter.unusedSimpArgs false
def f5s : List Int := [-1, 2147483647, 2147483648, 4294967297, 1]
def fF (t : Int) : Int := f5s.getD t.toNat 0
theorem f5_all : ∀ i : Nat, i < 5 → f5s[i]? = some (fF (i : Int)) := by decide
theorem fF_cl {W : World} {L : List Blk} {r T : Nat} (h : (r, .cells (ints .i64 f5s).toArray T (0, 0)) ∈ L) (t : Int) (h0 : 0 ≤ t) (h1 : t < 5) : Cl W L r (0 + t.toNat * 1) (.int .i64 (fF t)) := by
  refine Cl.own h ?_
  have := f5_all t.toNat (by omega)
  rw [Int.toNat_of_nonneg h0] at this
  show (ints .i64 f5s).toArray[0 + t.toNat * 1]? = _
  rw [Nat.zero_add, Nat.mul_one]
  simp only [ints, List.getElem?_toArray, List.getElem?_map, this]; rfl
def csF (i d : Int) : List Int := [d].take (i % 2).toNat
theorem csF_len (i d : Int) : (csF i d).length = (i % 2).toNat := by
  unfold csF
  rw [List.length_take]
  have : (i % 2).toNat ≤ 1 := by omega
  show min _ 1 = _
  omega
def acF (i d : Int) (r : Nat) : Ac := ⟨i, ⟨d, IntKind.u32.wrap (IntKind.u32.wrap (IntKind.u32.wrap d * 2) + 7), IntKind.u32.wrap (IntKind.u32.wrap (IntKind.u32.wrap d * 2) + 8), true⟩, d, 1, false, csF i d, some ⟨r, 0, none⟩, 1, 0⟩
theorem perm_kf (a b : Blk) (l N : List Blk) : (a :: b :: (l ++ (N ++ []))).Perm (b :: (l ++ ((a :: N) ++ []))) := (by classical exact List.perm_iff_count.2 fun a => by simp only [List.append_eq, List.count_append, List.count_cons, List.count_nil, List.cons_append, List.nil_append, List.flatMap_append, List.flatMap_cons, List.flatMap_nil, List.append_nil]; omega)
set_option maxHeartbeats 3200000 in
theorem xf_RoomKnown {W : World} : XF Tryz.prog W 4 #[] [] (fun v L' => v = .bool true) := by
  refine xf_enter (args := []) Tryz.func4 rfl Tryz.ntmps4 rfl ?_
  focus
    refine xc_seq ?_
    refine xc_region ?_
    refine xo_rd (rd_assign rfl) rfl ?_
    refine xo_nil ?_
    refine xq_seq ?_
    refine xc_seq ?_
    refine xc_seq ?_
    refine xc_region ?_
    refine xo_rd (rd_assign rfl) rfl ?_
    refine xo_nil ?_
    refine xq_seq ?_
    refine xc_block ?_
  refine xc_loopK (ι := Nat) (fun n => n ≤ 100) (fun n => 100 - n) (fun n => [(1, .int .i64 n)]) 0 (Nat.zero_le _) (by repeat (first | exact keep_nil | refine keep_cons rfl ?_)) ?_
  intro n hn
  by_cases hnn : n < 100
  · skip
    focus
      refine xc_seq ?_
      refine xc_seq ?_
      refine xc_region ?_
      refine xo_rd (rd_move rfl) rfl ?_
      refine xo_rd (rd_lss rfl rfl) rfl ?_
      refine xo_nil ?_
      refine xq_seq ?_
      refine xc_dec rfl (fun h1 => ?_) (fun h1 => (by exfalso; omega))
      refine xc_skip ?_
      refine xq_seq ?_
      refine xc_seq ?_
      refine xc_block ?_
      refine xc_seq ?_
      refine xc_region ?_
      refine xo_rd (rd_move rfl) rfl ?_
      refine xo_rd (rd_muln rfl rfl (by omega) (by omega)) rfl ?_
      refine xo_ef rfl (ef_call rfl (XF.mono (xf_acts ((n : Int) * 37) ⟨by omega, by omega⟩) ?_))
      rintro v L' ⟨xs, p, c, N, rfl, hxl, hac, rfl⟩
      refine xo_rd (rd_assign rfl) rfl ?_
      refine xo_nil ?_
      refine xq_seq ?_
    have hA : ∀ L', (∀ z, z ∈ N → z ∈ L') → Rs W L' p (xs.flatMap Ac.enc) ∧ ∀ x, x ∈ xs → AcL W L' x := fun L' h => ⟨(hac W).1.mono fun z hz => h z (by rwa [List.append_nil] at hz), fun x hx => ((hac W).2 x hx).mono fun z hz => h z (by rwa [List.append_nil] at hz)⟩
    focus
      refine xc_seq ?_
      refine xc_region ?_
      refine xo_rd (rd_move rfl) rfl ?_
      refine xo_rd (rd_remn rfl rfl (by omega) (by omega)) rfl ?_
      refine xo_rd (rd_addn rfl rfl (by omega) (by omega)) rfl ?_
      refine xo_rd (rd_move rfl) rfl ?_
      refine xo_rd (rd_remn rfl rfl (by omega) (by omega)) rfl ?_
      refine xo_rd (rd_move rfl) rfl ?_
      refine xo_rd (rd_remn rfl rfl (by omega) (by omega)) rfl ?_
      refine xo_rd (rd_addn rfl rfl (by omega) (by omega)) rfl ?_
      refine xo_rd (rd_convn rfl (by omega) (by omega)) rfl ?_
      refine xo_rd (rd_cast (v' := .agg (cfgE (3 + (n : Int) % 4) ((n : Int) % 3) (1 + (n : Int) % 9)).toArray) (rd_build (T := 24) rfl rfl rfl) (by kernel_rfl)) rfl ?_
      refine xo_rd (rd_move rfl) rfl ?_
      refine xo_ef rfl (ef_call rfl (XF.mono (xk_plays _ _ _ (by omega) p xs.length c xs rfl (hA _ (by intro z hz; simp [hz])).1 (hA _ (by intro z hz; simp [hz])).2) ?_))
      rintro v L' ⟨rfl, rfl⟩
      refine xo_rd (rd_not rfl) rfl ?_
      refine xo_rd (rd_move rfl) rfl ?_
      refine xo_grd rfl rfl (rd_move rfl) rfl ?_
      refine xo_gef rfl rfl rfl (ef_call rfl (XF.mono (xk_fits p xs.length c xs rfl (hA _ (by intro z hz; simp [hz])).1 (hA _ (by intro z hz; simp [hz])).2) ?_))
      rintro v L' ⟨rfl, rfl⟩
      refine xo_grd rfl rfl (rd_not rfl) rfl ?_
      refine xo_rd (rd_pickf rfl rfl) rfl ?_
      refine xo_nil ?_
      refine xq_seq ?_
      refine xc_condf rfl ?_
      refine xc_skip ?_
      refine xq_block ?_
      refine xq_seq ?_
      refine xc_region ?_
      refine xo_rd (rd_move rfl) rfl ?_
      refine xo_rd (rd_addn rfl rfl (by omega) (by omega)) rfl ?_
      refine xo_rd (rd_assign rfl) rfl ?_
      refine xo_nil ?_
    exact xq_roundK rfl (n + 1) (by omega) (by omega) (List.nil_sublist _) (by repeat (first | exact keep_nil | refine keep_cons rfl ?_))
  have hn1 : n = 100 := by omega
  subst hn1
  clear hn hnn
  focus
    refine xc_seq ?_
    refine xc_seq ?_
    refine xc_region ?_
    refine xo_rd (rd_move rfl) rfl ?_
    refine xo_rd (rd_lss rfl rfl) rfl ?_
    refine xo_nil ?_
    refine xq_seq ?_
    refine xc_condf rfl ?_
    refine xc_exit ?_
    refine xq_then_exit ?_
    refine xq_then_exit ?_
    refine xq_block_hit ?_
    refine xq_seq ?_
    refine xc_seq ?_
    refine xc_region ?_
    refine xo_rd (rd_assign rfl) rfl ?_
    refine xo_nil ?_
    refine xq_seq ?_
    refine xc_seq ?_
    refine xc_seq ?_
    refine xc_region ?_
    refine xo_ef rfl (ef_buildL (T := 50) (len := 5) (s := 1) (cells := (ints .i64 f5s).toArray) rfl (by decide) (by decide) (by kernel_rfl) fun r32 => ?_)
    refine xo_rd (rd_len rfl) rfl ?_
    refine xo_rd (rd_move rfl) rfl ?_
    refine xo_nil ?_
    refine xq_seq ?_
    refine xc_block ?_
  refine xc_loopI (ι := ActS) (fun s => s.i ≤ 5 ∧ s.xs.length = 8 * s.i ∧ SlQ 10 52 (.slice s.p s.xs.length s.c) s.xs.length (s.xs.flatMap Ac.enc) s.l ∧ ∀ x, x ∈ s.xs → ∀ W L', (∀ z, z ∈ s.N → z ∈ L') → AcL W L' x) (fun s => 5 - s.i) (fun s => (r32, Obj.cells (ints .i64 f5s).toArray 3 (0, 0)) :: (s.l ++ (s.N ++ []))) (fun s => [(3, .slice s.p s.xs.length s.c), (32, .slice (some ⟨r32, 0, none⟩) 5 5), (33, .int .i64 5), (34, .int .i64 s.i)]) ⟨0, 0, [], none, 0, [], []⟩ ⟨Nat.zero_le _, rfl, SlQ.nil, (fun y h => by cases h)⟩ rfl (by repeat (first | exact keep_nil | refine keep_cons rfl ?_)) ?_
  rintro ⟨j, k0, xs, p, c, l, N⟩ ⟨hj, hxl, hsl, hat⟩
  dsimp only at hj hxl hsl hat ⊢
  by_cases hjn : j < 5
  · skip
    focus
      refine xc_seq ?_
      refine xc_region ?_
      refine xo_rd (rd_lss rfl rfl) rfl ?_
      refine xo_nil ?_
      refine xq_seq ?_
      refine xc_seq ?_
      refine xc_dec rfl (fun h1 => ?_) (fun h1 => (by exfalso; omega))
      refine xc_skip ?_
      refine xq_seq ?_
      refine xc_seq ?_
      refine xc_block ?_
      refine xc_seq ?_
      refine xc_region ?_
      refine xo_rd (rd_indexAddr rfl rfl (by omega) (by omega)) rfl ?_
      refine xo_rd (rd_load1 rfl (fF_cl (r := r32) (T := 3) (by simp) _ (by omega) (by omega))) rfl ?_
      refine xo_rd (rd_assign rfl) rfl ?_
      refine xo_nil ?_
      refine xq_seq ?_
      refine xc_seq ?_
      refine xc_region ?_
      refine xo_rd (rd_assign rfl) rfl ?_
      refine xo_nil ?_
      refine xq_seq ?_
      refine xc_block ?_
    generalize fF (j : Int) = d
    refine xc_loopI (ι := ActS) (fun s => s.i ≤ 8 ∧ s.xs.length = 8 * j + s.i ∧ SlQ 10 52 (.slice s.p s.xs.length s.c) s.xs.length (s.xs.flatMap Ac.enc) s.l ∧ ∀ x, x ∈ s.xs → ∀ W L', (∀ z, z ∈ s.N → z ∈ L') → AcL W L' x) (fun s => 8 - s.i) (fun s => (r32, Obj.cells (ints .i64 f5s).toArray 3 (0, 0)) :: (s.l ++ (s.N ++ []))) (fun s => [(3, .slice s.p s.xs.length s.c), (5, .int .i64 d), (6, .int .i64 s.i), (32, .slice (some ⟨r32, 0, none⟩) 5 5), (33, .int .i64 5), (34, .int .i64 j)]) ⟨0, 0, xs, p, c, l, N⟩ ⟨Nat.zero_le _, by dsimp only; omega, hsl, hat⟩ rfl (by repeat (first | exact keep_nil | refine keep_cons rfl ?_)) ?_
    clear hxl hsl hat
    rintro ⟨i, k, xs, p, c, l, N⟩ ⟨hi, hxl, hsl, hat⟩
    dsimp only at hi hxl hsl hat ⊢
    by_cases hin : i < 8
    · skip
      focus
        refine xc_seq ?_
        refine xc_seq ?_
        refine xc_region ?_
        refine xo_rd (rd_move rfl) rfl ?_
        refine xo_rd (rd_lss rfl rfl) rfl ?_
        refine xo_nil ?_
        refine xq_seq ?_
        refine xc_dec rfl (fun hz1 => ?_) (fun hz1 => (by exfalso; omega))
        refine xc_skip ?_
        refine xq_seq ?_
        refine xc_seq ?_
        refine xc_block ?_
        refine xc_region ?_
        refine xo_rd (rd_move rfl) rfl ?_
        refine xo_rd (rd_move rfl) rfl ?_
        refine xo_rd (rd_move rfl) rfl ?_
        refine xo_rd (rd_move rfl) rfl ?_
        refine xo_rd (rd_move rfl) rfl ?_
        refine xo_rd (rd_conv rfl) rfl ?_
        refine xo_rd (rd_mul rfl rfl) rfl ?_
        refine xo_rd (rd_add rfl rfl) rfl ?_
        refine xo_rd (rd_move rfl) rfl ?_
        refine xo_rd (rd_conv rfl) rfl ?_
        refine xo_rd (rd_mul rfl rfl) rfl ?_
        refine xo_rd (rd_add rfl rfl) rfl ?_
        refine xo_rd (rd_build rfl rfl rfl) rfl ?_
        refine xo_rd (rd_move rfl) rfl ?_
        refine xo_ef rfl (ef_buildL (T := 50) (len := 1) (s := 1) (cells := (ints .i64 [d]).toArray) rfl (by decide) (by decide) (by kernel_rfl) fun r56 => ?_)
        refine xo_rd (rd_move rfl) rfl ?_
        refine xo_rd (rd_remn rfl rfl (by omega) (by omega)) rfl ?_
        refine xo_rd (rd_sliceHi rfl rfl (by omega) (by omega)) rfl ?_
        refine xo_rd (rd_cast (v' := .agg (acF i d r56).enc.toArray) (rd_build (T := 52) rfl rfl rfl) (by unfold acF Ac.enc; dsimp only; rw [csF_len]; kernel_rfl)) rfl ?_
        refine xo_ef rfl (ef_sliceA (vs := (acF i d r56).enc) rfl rfl (by rw [Ac.len]; decide) (by rw [Ac.len]; decide) fun r61 => ?_)
        refine xo_ef rfl (ef_appendQS [_, _, _] (N ++ []) l (news := (acF i d r56).enc) rfl rfl hsl rfl (Rs.fresh (List.Mem.head _)) rfl rfl (by decide) (by omega) (by omega) fun q2 k2 l2 hO2 hk2 => ?_)
        refine xo_rd (rd_assign rfl) rfl ?_
        refine xo_nil ?_
        refine xq_block ?_
        refine xq_seq ?_
        refine xc_region ?_
        refine xo_rd (rd_move rfl) rfl ?_
        refine xo_rd (rd_addn rfl rfl (by omega) (by omega)) rfl ?_
        refine xo_rd (rd_assign rfl) rfl ?_
        refine xo_nil ?_
      refine xq_sub (List.sublist_append_right [_] _) (xq_perm (perm_kf _ _ l2 N) ?_)
      refine xq_roundI (⟨i + 1, 0, xs ++ [acF i d r56], q2, k2, l2, (r56, Obj.cells (ints .i64 [d]).toArray 3 (0, 0)) :: N⟩ : ActS) ⟨by dsimp only; omega, by dsimp only; rw [List.length_append, hxl]; rfl, ?_, ?_⟩ (by dsimp only; omega) rfl ?_
      · dsimp only
        rw [List.length_append, List.flatMap_append, List.flatMap_singleton]; exact hO2
      · intro z hz2 W L' h
        rcases List.mem_append.1 hz2 with h2 | h2
        · exact hat z h2 W L' fun z hz => h z (List.mem_cons_of_mem _ hz)
        · rw [List.mem_singleton.1 h2]
          have h3 : Rs W L' (some ⟨r56, 0, none⟩) (ints .i64 [d]) := Rs.fresh (h _ List.mem_cons_self)
          refine ⟨?_, ?_, ?_⟩
          · show Rs W L' (some ⟨r56, 0, none⟩) (ints .i64 (csF i d))
            unfold csF
            rw [ints_take]
            exact h3.take _
          · show (csF i d).length ≤ 1
            rw [csF_len]; omega
          · exact ⟨Int.le_refl 0, by show (0 : Int) ≤ 255; decide⟩
      · dsimp only
        rw [List.length_append]
        exact (by repeat (first | exact keep_nil | refine keep_cons rfl ?_))
    have hi8 : i = 8 := by omega
    subst hi8
    focus
      refine xc_seq ?_
      refine xc_seq ?_
      refine xc_region ?_
      refine xo_rd (rd_move rfl) rfl ?_
      refine xo_rd (rd_lss rfl rfl) rfl ?_
      refine xo_nil ?_
      refine xq_seq ?_
      refine xc_condf rfl ?_
      refine xc_exit ?_
      refine xq_then_exit ?_
      refine xq_then_exit ?_
      refine xq_block_hit ?_
      refine xq_block ?_
      refine xq_seq ?_
      refine xc_region ?_
      refine xo_rd (rd_addn rfl rfl (by omega) (by omega)) rfl ?_
      refine xo_rd (rd_move rfl) rfl ?_
      refine xo_nil ?_
    exact xq_roundI (⟨j + 1, 0, xs, p, c, l, N⟩ : ActS) ⟨by dsimp only; omega, by dsimp only; omega, hsl, hat⟩ (by dsimp only; omega) rfl (by repeat (first | exact keep_nil | refine keep_cons rfl ?_))
  have hj5 : j = 5 := by omega
  subst hj5
  obtain ⟨G, hG⟩ : ∃ G, (r32, Obj.cells (ints .i64 f5s).toArray 3 (0, 0)) :: (l ++ (N ++ [])) = G := ⟨_, rfl⟩
  rw [hG]
  have hA : ∀ (L' : List Blk), (∀ z, z ∈ G → z ∈ L') → Rs W L' p (xs.flatMap Ac.enc) ∧ ∀ x, x ∈ xs → AcL W L' x := fun L' h => ⟨hsl.rs fun z hz => h z (by rw [← hG]; exact List.mem_cons_of_mem _ (List.mem_append_left _ hz)), fun x hx => hat x hx W _ fun z hz => h z (by rw [← hG]; exact List.mem_cons_of_mem _ (List.mem_append_right _ (List.mem_append_left _ hz)))⟩
  clear hG hsl
  have hB := hA _ fun z h => h
  obtain ⟨b, o, hp, hc⟩ := hB.1.rows Ac.len (by decide) (by omega)
  have hc0 := hc 0 (by omega)
  have hm0 : xs[0] ∈ xs := List.getElem_mem _
  have hx0 := fun L' h => (hA L' h).2 _ hm0
  obtain ⟨a, ha⟩ : ∃ a, xs[0] = a := ⟨_, rfl⟩
  rw [ha] at hc0 hx0
  subst hp
  have hc2 : ∀ (L' : List Blk), (∀ z, z ∈ G → z ∈ L') → ∀ i u, a.enc[i]? = some u → Cl W L' b (o + (0 : Int).toNat * 10 + i) u := fun L' h i u hu => (hc0 i u hu).mono h
  focus
    refine xc_seq ?_
    refine xc_region ?_
    refine xo_rd (rd_lss rfl rfl) rfl ?_
    refine xo_nil ?_
    refine xq_seq ?_
    refine xc_seq ?_
    refine xc_condf rfl ?_
    refine xc_exit ?_
    refine xq_then_exit ?_
    refine xq_then_exit ?_
    refine xq_block_hit ?_
    refine xq_seq ?_
    refine xc_seq ?_
    refine xc_region ?_
    refine xo_rd (rd_cast (v' := .agg (cfgE 9 1 1).toArray) (rd_build (T := 24) rfl rfl rfl) rfl) rfl ?_
    refine xo_rd (rd_move rfl) rfl ?_
    refine xo_ef rfl (ef_call rfl (XF.mono (xk_plays 9 1 1 (by decide) (some ⟨b, o, none⟩) xs.length c xs rfl (hA _ (by intro z hz; simp [hz])).1 (hA _ (by intro z hz; simp [hz])).2) ?_))
    rintro v L' ⟨rfl, rfl⟩
    refine xo_rd (rd_move rfl) rfl ?_
    refine xo_grd rfl rfl (rd_move rfl) rfl ?_
    refine xo_gef rfl rfl rfl (ef_call rfl (XF.mono (xk_fits (some ⟨b, o, none⟩) xs.length c xs rfl (hA _ (by intro z hz; simp [hz])).1 (hA _ (by intro z hz; simp [hz])).2) ?_))
    rintro v L' ⟨rfl, rfl⟩
    refine xo_rd (rd_pickt rfl rfl) rfl ?_
    refine xo_rd (rd_move rfl) rfl ?_
    refine xo_grd rfl rfl (rd_cast (v' := .agg (cfgE (-1) 0 1).toArray) (rd_build (T := 24) rfl rfl rfl) rfl) rfl ?_
    refine xo_grd rfl rfl (rd_move rfl) rfl ?_
    refine xo_gef rfl rfl rfl (ef_call rfl (XF.mono (xk_plays (-1) 0 1 (by decide) (some ⟨b, o, none⟩) xs.length c xs rfl (hA _ (by intro z hz; simp [hz])).1 (hA _ (by intro z hz; simp [hz])).2) ?_))
    rintro v L' ⟨rfl, rfl⟩
    refine xo_rd (rd_pickt rfl rfl) rfl ?_
    refine xo_rd (rd_move rfl) rfl ?_
    refine xo_grd rfl rfl (rd_cast (v' := .agg (cfgE 33 0 1).toArray) (rd_build (T := 24) rfl rfl rfl) rfl) rfl ?_
    refine xo_grd rfl rfl (rd_move rfl) rfl ?_
    refine xo_gef rfl rfl rfl (ef_call rfl (XF.mono (xk_plays 33 0 1 (by decide) (some ⟨b, o, none⟩) xs.length c xs rfl (hA _ (by intro z hz; simp [hz])).1 (hA _ (by intro z hz; simp [hz])).2) ?_))
    rintro v L' ⟨rfl, rfl⟩
    refine xo_rd (rd_pickt rfl rfl) rfl ?_
    refine xo_rd (rd_move rfl) rfl ?_
    refine xo_grd rfl rfl (rd_cast (v' := .agg (cfgE 3 0 0).toArray) (rd_build (T := 24) rfl rfl rfl) rfl) rfl ?_
    refine xo_grd rfl rfl (rd_move rfl) rfl ?_
    refine xo_gef rfl rfl rfl (ef_call rfl (XF.mono (xk_plays 3 0 0 (by decide) (some ⟨b, o, none⟩) xs.length c xs rfl (hA _ (by intro z hz; simp [hz])).1 (hA _ (by intro z hz; simp [hz])).2) ?_))
    rintro v L' ⟨rfl, rfl⟩
    refine xo_rd (rd_pickt rfl rfl) rfl ?_
    refine xo_rd (rd_move rfl) rfl ?_
    refine xo_grd rfl rfl (rd_cast (v' := .agg (cfgE 3 33 1).toArray) (rd_build (T := 24) rfl rfl rfl) rfl) rfl ?_
    refine xo_gef rfl rfl rfl (ef_call rfl (XF.mono (xk_plays 3 33 1 (by decide) none 0 0 [] rfl Rs.nil (fun x h => by cases h)) ?_))
    rintro v L' ⟨rfl, rfl⟩
    refine xo_rd (rd_pickt rfl rfl) rfl ?_
    refine xo_rd (rd_move rfl) rfl ?_
    refine xo_grd rfl rfl (rd_move rfl) rfl ?_
    refine xo_grd rfl rfl (rd_indexAddr rfl rfl (by omega) (by omega)) rfl ?_
    refine xo_grd rfl rfl (rd_loadA (vs := a.enc) rfl rfl (hc2 _ (by intro z hz; simp [hz]))) rfl ?_
    refine xo_gef rfl rfl rfl (ef_call rfl (XF.mono (xk_none a (hx0 _ (by intro z hz; simp [hz]))) ?_))
    rintro v L' ⟨rfl, rfl⟩
    refine xo_rd (rd_pickt rfl rfl) rfl ?_
    refine xo_rd (rd_move rfl) rfl ?_
    refine xo_gef rfl rfl rfl (ef_call rfl (XF.mono (xf_works) ?_))
    rintro v L' ⟨rfl, rfl⟩
    refine xo_rd (rd_pickt rfl rfl) rfl ?_
    refine xo_rd (rd_assign rfl) rfl ?_
    refine xo_nil ?_
    refine xq_seq ?_
    refine xc_ret ?_
  exact xq_ret1 (.inl rfl) Tryz.results4 rfl rfl
end Go.Proofs.YtmdeajdaeihniaaGreat.X
