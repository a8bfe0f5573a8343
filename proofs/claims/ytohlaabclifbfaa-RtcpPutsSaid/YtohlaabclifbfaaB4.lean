/-
  Blocks are written: a walk of my own.
-/
import Derived.Test.YtohlaabclifbfaaB3
namespace Go.Proofs.Ytohlaabclifbfaa.X
open Go Go.RowKit
set_option linter.unusedVariables false
set_option linter.unusedSimpArgs false
structure Bk where
  ss : Int
  lo : Int
  to : Int
  hi : Int
  ji : Int
  ls : Int
  dl : Int
deriving DecidableEq
def Bk.enc (x : Bk) : List Value := [.int .u32 x.ss, .int .u8 x.lo, .int .i32 x.to, .int .u32 x.hi, .int .u32 x.ji, .int .u32 x.ls, .int .u32 x.dl]
theorem Bk.len (x : Bk) : x.enc.length = 7 := rfl
theorem Bk.one (x : Bk) : x.enc.all (·.oneCell') = true := rfl
structure Bk.Rg (x : Bk) : Prop where
  ss : U4 x.ss
  lo : By x.lo
  to : -2147483648 ≤ x.to ∧ x.to ≤ 2147483647
  hi : U4 x.hi
  ji : U4 x.ji
  ls : U4 x.ls
  dl : U4 x.dl
def Bk.fit (x : Bk) : Bool := decide (-8388608 ≤ x.to ∧ x.to ≤ 8388607)
def Bk.nums (x : Bk) : List Int := [x.ss, x.lo * 16777216 + x.to % 16777216, x.hi, x.ji, x.ls, x.dl]
def bkL (x : Bk) : List Int := x.nums.flatMap be4
def blkR (l : List Bk) : List Int × Bool := if l.all Bk.fit then (l.flatMap bkL, decide (l.length ≤ 31)) else ([], false)
theorem bkL_len (x : Bk) : (bkL x).length = 24 := rfl
theorem bkLs_len (l : List Bk) : (l.flatMap bkL).length = 24 * l.length := by
  induction l with
  | nil => rfl
  | cons a r ih => rw [List.flatMap_cons, List.length_append, ih, bkL_len]; simp; omega
theorem and32_24 (x : Int) (h0 : 0 ≤ x) (h1 : x ≤ 4294967295) : bits .and .u32 x 16777215 = x % 16777216 := by
  obtain ⟨n, rfl⟩ := Int.eq_ofNat_of_zero_le h0
  have e1 : (BitVec.ofInt 32 (n : Int) &&& BitVec.ofInt 32 16777215).toNat = n % 16777216 := by
    rw [BitVec.toNat_and, show (BitVec.ofInt 32 16777215).toNat = 2 ^ 24 - 1 from by decide, Nat.and_two_pow_sub_one_eq_mod, BitVec.ofInt_natCast, BitVec.toNat_ofNat]
    have : n % 2 ^ 32 = n := Nat.mod_eq_of_lt (by omega)
    rw [this]
  show IntKind.u32.wrap ((BitVec.ofInt 32 (n : Int) &&& BitVec.ofInt 32 16777215).toNat : Int) = _
  rw [e1, wrap32]; omega
theorem or32_24 (a c : Int) (h0 : 0 ≤ a) (h1 : a ≤ 255) (h2 : 0 ≤ c) (h3 : c < 16777216) : bits .or .u32 (a * 16777216) c = a * 16777216 + c := by
  obtain ⟨n, rfl⟩ := Int.eq_ofNat_of_zero_le h0
  obtain ⟨k, rfl⟩ := Int.eq_ofNat_of_zero_le h2
  have e1 : (BitVec.ofInt 32 ((n : Int) * 16777216) ||| BitVec.ofInt 32 (k : Int)).toNat = n * 16777216 + k := by
    rw [BitVec.toNat_or]
    have a1 : (BitVec.ofInt 32 ((n : Int) * 16777216)).toNat = n * 16777216 := by
      rw [show ((n : Int) * 16777216) = ((n * 16777216 : Nat) : Int) from by omega, BitVec.ofInt_natCast, BitVec.toNat_ofNat]
      exact Nat.mod_eq_of_lt (by show n * 16777216 < 4294967296; omega)
    have a2 : (BitVec.ofInt 32 (k : Int)).toNat = k := by
      rw [BitVec.ofInt_natCast, BitVec.toNat_ofNat]
      exact Nat.mod_eq_of_lt (by show k < 4294967296; omega)
    rw [a1, a2, Nat.mul_comm n 16777216]
    exact (Nat.two_pow_add_eq_or_of_lt (i := 24) (b := k) (by omega) n).symm.trans (by omega)
  show IntKind.u32.wrap ((BitVec.ofInt 32 ((n : Int) * 16777216) ||| BitVec.ofInt 32 (k : Int)).toNat : Int) = _
  rw [e1, wrap32]; omega
theorem Bk.nums_u4 {x : Bk} (h : x.Rg) : ∀ z, z ∈ x.nums → U4 z := by
  have h1 := h.ss; have h2 := h.lo; have h4 := h.hi; have h5 := h.ji; have h6 := h.ls; have h7 := h.dl
  intro z hz
  simp only [Bk.nums, List.mem_cons, List.not_mem_nil, or_false] at hz
  rcases hz with rfl | rfl | rfl | rfl | rfl | rfl
  · exact h1
  · unfold By at h2; unfold U4; omega
  · exact h4
  · exact h5
  · exact h6
  · exact h7
/-- What blocks are written as. -/
def BlM (L : List Blk) (z : List Int × Bool) (v : Value) (L' : List Blk) : Prop :=
  ∃ s k l, v = .tuple #[.slice s z.1.length k, .bool z.2] ∧ SlO 1 5 (.slice s z.1.length k) z.1.length (ints .u8 z.1) l ∧ L' = l ++ L
set_option maxHeartbeats 4000000 in
theorem xf_blocks {W : World} {L : List Blk} (p : Option Addr) (n c : Nat) (xs : List Bk) (hx : xs.length = n) (hr : Rs W L p (xs.flatMap Bk.enc)) (hg : ∀ x, x ∈ xs → x.Rg) (hn : n ≤ 1000000) :
    XF Try.prog W 55 #[.slice p n c] L (BlM L (blkR xs)) := by
  refine xf_enter (args := [_]) Try.func55 rfl Try.ntmps55 rfl ?_
  focus
    refine xc_seq ?_
    refine xc_region ?_
    refine xo_rd (rd_assign rfl) rfl ?_
    refine xo_rd (rd_assign rfl) rfl ?_
    refine xo_nil ?_
    refine xq_seq ?_
    refine xc_seq ?_
    refine xc_seq ?_
    refine xc_region ?_
    refine xo_rd (rd_move rfl) rfl ?_
    refine xo_rd (rd_len rfl) rfl ?_
    refine xo_rd (rd_move rfl) rfl ?_
    refine xo_nil ?_
    refine xq_seq ?_
    refine xc_block ?_
  refine xc_loopI (ι := LgS) (fun z => z.i ≤ n ∧ (∀ j (h : j < xs.length), j < z.i → xs[j].fit = true) ∧ SlO 1 5 (.slice z.s (24 * z.i) z.k) (24 * z.i) (ints .u8 ((xs.take z.i).flatMap bkL)) z.l) (fun z => n - z.i) (fun z => z.l ++ L) (fun z => [(0, .slice p n c), (2, .slice z.s (24 * z.i) z.k), (7, .slice p n c), (8, .int .i64 n), (9, .int .i64 z.i)]) ⟨0, none, 0, []⟩ ⟨Nat.zero_le _, (fun j h hj => absurd hj (Nat.not_lt_zero _)), SlO.nil⟩ rfl (by repeat (first | exact keep_nil | refine keep_cons rfl ?_)) ?_
  rintro ⟨i, s, k, l⟩ ⟨hi, hok, hO⟩
  dsimp only at hi hok hO ⊢
  by_cases hin : i < n
  · obtain ⟨b, o, hp, hc⟩ := hr.rows Bk.len (by decide) (by omega)
    subst hp
    have hci := hc i (by omega)
    have hgx := hg xs[i] (List.getElem_mem _)
    have e1 : xs.take (i + 1) = xs.take i ++ [xs[i]] := by rw [List.take_add_one, List.getElem?_eq_getElem (by omega)]; rfl
    have hbad : xs[i].fit = false → blkR xs = ([], false) := fun h => by
      unfold blkR
      rw [if_neg]
      intro ha
      have := List.all_eq_true.1 ha xs[i] (List.getElem_mem _)
      rw [h] at this; cases this
    have hok' : xs[i].fit = true → ∀ j (h : j < xs.length), j < i + 1 → xs[j].fit = true := fun h j hj hji => by
      by_cases hji2 : j < i
      · exact hok j hj hji2
      · obtain rfl : j = i := by omega
        exact h
    generalize xs[i] = x at *
    have hcI : ∀ L', (∀ z, z ∈ L → z ∈ L') → ∀ (j : Nat) (u : Value), x.enc[j]? = some u → Cl W L' b (o + (i : Int).toNat * 7 + j) u := fun L' h j u hj => (hci j u hj).mono h
    have h1 := hgx.ss; have h2 := hgx.lo; have h3 := hgx.to; have h4 := hgx.hi; have h5 := hgx.ji; have h6 := hgx.ls; have h7 := hgx.dl
    have hnu := Bk.nums_u4 hgx
    obtain ⟨ss, lo, to, hi', ji, ls, dl⟩ := x
    dsimp only [By, U4] at h1 h2 h3 h4 h5 h6 h7
    by_cases hf : -8388608 ≤ to ∧ to ≤ 8388607
    · skip
      focus
        refine xc_seq ?_
        refine xc_region ?_
        refine xo_rd (rd_lss rfl rfl) rfl ?_
        refine xo_nil ?_
        refine xq_seq ?_
        refine xc_seq ?_
        refine xc_dec rfl (fun hq1 => ?_) (fun hq1 => (by exfalso; omega))
        refine xc_skip ?_
        refine xq_seq ?_
        refine xc_seq ?_
        refine xc_block ?_
        refine xc_seq ?_
        refine xc_region ?_
        refine xo_rd (rd_indexAddr rfl rfl (by omega) (by omega)) rfl ?_
        refine xo_rd (rd_loadA (vs := [Value.int .u32 ss, .int .u8 lo, .int .i32 to, .int .u32 hi', .int .u32 ji, .int .u32 ls, .int .u32 dl]) rfl rfl (hcI _ (by intro z hz; simp [hz]))) rfl ?_
        refine xo_ef rfl (ef_alloc fun r5 => ?_)
        refine xo_ef rfl (ef_storeB [] _ rfl rfl (by first | rfl | assumption) rfl rfl rfl ?_)
        refine xo_nil ?_
        refine xq_seq ?_
        refine xc_seq ?_
        refine xc_seq ?_
        refine xc_region ?_
        refine xo_rd (rd_fieldAddr rfl) rfl ?_
        refine xo_rd (rd_load1 rfl (Cl.o0 rfl)) rfl ?_
        refine xo_rd (rd_lss rfl rfl) rfl ?_
        refine xo_rd (rd_move rfl) rfl ?_
        refine xo_dec 16 rfl (fun hq2 => (by exfalso; omega)) (fun hq2 => ?_)
        refine xo_grd rfl rfl (rd_fieldAddr rfl) rfl ?_
        refine xo_grd rfl rfl (rd_load1 rfl (Cl.o0 rfl)) rfl ?_
        refine xo_grd rfl rfl (rd_geq rfl rfl) rfl ?_
        refine xo_rd (rd_pickf rfl rfl) rfl ?_
        refine xo_nil ?_
        refine xq_seq ?_
        refine xc_dec rfl (fun hq3 => (by exfalso; omega)) (fun hq3 => ?_)
        refine xc_skip ?_
        refine xq_seq ?_
        refine xc_seq ?_
        refine xc_region ?_
        refine xo_rd (rd_fieldAddr rfl) rfl ?_
        refine xo_rd (rd_load1 rfl (Cl.o0 rfl)) rfl ?_
        refine xo_rd (rd_convn rfl (by omega) (by omega)) rfl ?_
        refine xo_rd (rd_cast (v' := .int .u32 (lo * 16777216)) (rd_shl rfl rfl (by decide) (by decide)) (congrArg (Value.int .u32) (show IntKind.u32.wrap (lo * 16777216) = lo * 16777216 from KB.h _ (by omega) (by omega)))) rfl ?_
        refine xo_rd (rd_fieldAddr rfl) rfl ?_
        refine xo_rd (rd_load1 rfl (Cl.o0 rfl)) rfl ?_
        refine xo_rd (rd_cast (v' := .int .u32 (to % 4294967296)) (rd_conv rfl) (congrArg (Value.int .u32) (wrap32 to))) rfl ?_
        refine xo_rd (rd_cast (v' := .int .u32 (to % 16777216)) (rd_and rfl rfl) (congrArg (Value.int .u32) (by rw [and32_24 (to % 4294967296) (by omega) (by omega)]; omega))) rfl ?_
        refine xo_rd (rd_cast (v' := .int .u32 (lo * 16777216 + to % 16777216)) (rd_or rfl rfl) (congrArg (Value.int .u32) (or32_24 lo (to % 16777216) h2.1 h2.2 (by omega) (by omega)))) rfl ?_
        refine xo_rd (rd_assign rfl) rfl ?_
        refine xo_nil ?_
        refine xq_seq ?_
        refine xc_region ?_
        refine xo_rd (rd_move rfl) rfl ?_
        refine xo_rd (rd_fieldAddr rfl) rfl ?_
        refine xo_rd (rd_load1 rfl (Cl.o0 rfl)) rfl ?_
        refine xo_rd (rd_move rfl) rfl ?_
        refine xo_rd (rd_fieldAddr rfl) rfl ?_
        refine xo_rd (rd_load1 rfl (Cl.o0 rfl)) rfl ?_
        refine xo_rd (rd_fieldAddr rfl) rfl ?_
        refine xo_rd (rd_load1 rfl (Cl.o0 rfl)) rfl ?_
        refine xo_rd (rd_fieldAddr rfl) rfl ?_
        refine xo_rd (rd_load1 rfl (Cl.o0 rfl)) rfl ?_
        refine xo_rd (rd_fieldAddr rfl) rfl ?_
        refine xo_rd (rd_load1 rfl (Cl.o0 rfl)) rfl ?_
        refine xo_ef rfl (ef_buildL (T := 55) (len := 6) (s := 1) (cells := (ints .u32 [ss, lo * 16777216 + to % 16777216, hi', ji, ls, dl]).toArray) rfl (by decide) (by decide) (by kernel_rfl) fun r42 => ?_)
        refine xo_ef rfl (ef_call rfl (XF.mono (xf_long (some ⟨r42, 0, none⟩) 6 6 [ss, lo * 16777216 + to % 16777216, hi', ji, ls, dl] rfl (Rs.fresh (List.Mem.head _)) hnu (by decide)) ?_))
        rintro v L' ⟨s2, k2, l2, rfl, hO2, rfl⟩
        refine xo_ef rfl (ef_appendG (l2 ++ [(r42, .cells (ints .u32 [ss, lo * 16777216 + to % 16777216, hi', ji, ls, dl]).toArray 49 (0, 0)), (r5, .cells #[Value.int .u32 ss, .int .u8 lo, .int .i32 to, .int .u32 hi', .int .u32 ji, .int .u32 ls, .int .u32 dl] 95 (0, 0))]) L l (news := ints .u8 (bkL ⟨ss, lo, to, hi', ji, ls, dl⟩)) rfl rfl hO (by simp) (hO2.rs (by intro z hz; simp [hz])) rfl (ints_one _ _) (by decide) (by omega) (by omega) fun s3 k3' l3 hO3 hk3 => ?_)
        refine xo_rd (rd_assign rfl) rfl ?_
        refine xo_nil ?_
        refine xq_block ?_
        refine xq_seq ?_
        refine xc_region ?_
        refine xo_rd (rd_addn rfl rfl (by omega) (by omega)) rfl ?_
        refine xo_rd (rd_move rfl) rfl ?_
        refine xo_nil ?_
      all_goals refine xq_roundI (⟨i + 1, s3, k3', l3⟩ : LgS) ⟨by dsimp only; omega, hok' (decide_eq_true hf), ?_⟩ (by dsimp only; omega) rfl (by repeat (first | exact keep_nil | refine keep_cons rfl ?_))
      all_goals (dsimp only; rw [e1, List.flatMap_append, List.flatMap_singleton, ints_app]; exact hO3)
    · skip
      rw [hbad (decide_eq_false hf)]
      focus
        refine xc_seq ?_
        refine xc_region ?_
        refine xo_rd (rd_lss rfl rfl) rfl ?_
        refine xo_nil ?_
        refine xq_seq ?_
        refine xc_seq ?_
        refine xc_dec rfl (fun hq1 => ?_) (fun hq1 => (by exfalso; omega))
        refine xc_skip ?_
        refine xq_seq ?_
        refine xc_seq ?_
        refine xc_block ?_
        refine xc_seq ?_
        refine xc_region ?_
        refine xo_rd (rd_indexAddr rfl rfl (by omega) (by omega)) rfl ?_
        refine xo_rd (rd_loadA (vs := [Value.int .u32 ss, .int .u8 lo, .int .i32 to, .int .u32 hi', .int .u32 ji, .int .u32 ls, .int .u32 dl]) rfl rfl (hcI _ (by intro z hz; simp [hz]))) rfl ?_
        refine xo_ef rfl (ef_alloc fun r5 => ?_)
        refine xo_ef rfl (ef_storeB [] _ rfl rfl (by first | rfl | assumption) rfl rfl rfl ?_)
        refine xo_nil ?_
        refine xq_seq ?_
        refine xc_seq ?_
        refine xc_seq ?_
        refine xc_region ?_
        refine xo_rd (rd_fieldAddr rfl) rfl ?_
        refine xo_rd (rd_load1 rfl (Cl.o0 rfl)) rfl ?_
        refine xo_rd (rd_lss rfl rfl) rfl ?_
        refine xo_rd (rd_move rfl) rfl ?_
        refine xo_dec 16 rfl (fun hq2 => ?_) (fun hq2 => ?_)
        refine xo_gskip rfl rfl rfl rfl ?_
        refine xo_gskip rfl rfl rfl rfl ?_
        refine xo_gskip rfl rfl rfl rfl ?_
        refine xo_rd (rd_pickt rfl rfl) rfl ?_
        refine xo_nil ?_
        refine xq_seq ?_
        refine xc_condt rfl ?_
        refine xc_seq ?_
        refine xc_region ?_
        refine xo_rd (rd_assign rfl) rfl ?_
        refine xo_rd (rd_assign rfl) rfl ?_
        refine xo_nil ?_
        refine xq_seq ?_
        refine xc_ret ?_
        refine xq_then_ret ?_
        refine xq_block_ret ?_
        refine xq_then_ret ?_
        refine xq_then_ret ?_
        refine xq_block_ret ?_
        refine xq_then_ret ?_
        rotate_left
        refine xo_grd rfl rfl (rd_fieldAddr rfl) rfl ?_
        refine xo_grd rfl rfl (rd_load1 rfl (Cl.o0 rfl)) rfl ?_
        refine xo_grd rfl rfl (rd_geq rfl rfl) rfl ?_
        refine xo_rd (rd_pickf rfl rfl) rfl ?_
        refine xo_nil ?_
        refine xq_seq ?_
        refine xc_dec rfl (fun hq3 => ?_) (fun hq3 => (by exfalso; omega))
        refine xc_seq ?_
        refine xc_region ?_
        refine xo_rd (rd_assign rfl) rfl ?_
        refine xo_rd (rd_assign rfl) rfl ?_
        refine xo_nil ?_
        refine xq_seq ?_
        refine xc_ret ?_
        refine xq_then_ret ?_
        refine xq_block_ret ?_
        refine xq_then_ret ?_
        refine xq_then_ret ?_
        refine xq_block_ret ?_
        refine xq_then_ret ?_
        rotate_left
      all_goals exact xq_sub ((List.sublist_append_right l L).trans (List.sublist_cons_self _ _)) (xq_ret2 (.inl rfl) Try.results55 rfl rfl ⟨none, 0, [], rfl, SlO.nil, rfl⟩)
  · focus
      refine xc_seq ?_
      refine xc_region ?_
      refine xo_rd (rd_lss rfl rfl) rfl ?_
      refine xo_nil ?_
      refine xq_seq ?_
      refine xc_seq ?_
      refine xc_dec rfl (fun h1 => (by exfalso; omega)) (fun h1 => ?_)
      refine xc_exit ?_
      refine xq_then_exit ?_
      refine xq_then_exit ?_
      refine xq_block_hit ?_
      refine xq_seq ?_
      refine xc_seq ?_
      refine xc_region ?_
      refine xo_rd (rd_move rfl) rfl ?_
      refine xo_rd (rd_move rfl) rfl ?_
      refine xo_rd (rd_len rfl) rfl ?_
      refine xo_rd (rd_leq rfl rfl) rfl ?_
      refine xo_rd (rd_assign rfl) rfl ?_
      refine xo_rd (rd_assign rfl) rfl ?_
      refine xo_nil ?_
      refine xq_seq ?_
      refine xc_ret ?_
    obtain rfl : i = n := by omega
    rw [List.take_of_length_le (by omega)] at hO
    have hall : xs.all Bk.fit = true := List.all_eq_true.2 fun x hx => by
      obtain ⟨j, hj, rfl⟩ := List.getElem_of_mem hx
      exact hok j hj (by omega)
    have e2 : blkR xs = (xs.flatMap bkL, decide ((i : Int) ≤ 31)) := by
      unfold blkR
      rw [if_pos hall]
      refine Prod.ext rfl ?_
      show decide (xs.length ≤ 31) = _
      rw [decide_eq_decide]; omega
    have hl : (xs.flatMap bkL).length = 24 * i := by rw [bkLs_len, hx]
    rw [e2]
    refine xq_ret2 (.inl rfl) Try.results55 rfl rfl ⟨s, k, l, ?_, by dsimp only; rw [hl]; exact hO, rfl⟩
    dsimp only; rw [hl]
end Go.Proofs.Ytohlaabclifbfaa.X
