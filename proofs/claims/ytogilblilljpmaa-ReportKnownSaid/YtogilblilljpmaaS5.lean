/-
  Texts of my own, put together: walks and laws for this seat. No condition.
-/
import Derived.Test.YtogilblilljpmaaS4
import Derived.Lib.AppendStr
/-
  Blocks are written: a walk of my own.
-/
namespace Go.Proofs.Ytogilblilljpmaa.X
open Go Go.RowKit
set_option linter.unusedVariables false
set_option linter.unusedSimpArgs false
structure Bk where
  ss : Int
  lo : Int
  to : Int
  hi : Int
  ji : Int
  ls : Int
  dl : Int
deriving DecidableEq
def Bk.enc (x : Bk) : List Value := [.int .u32 x.ss, .int .u8 x.lo, .int .i32 x.to, .int .u32 x.hi, .int .u32 x.ji, .int .u32 x.ls, .int .u32 x.dl]
theorem Bk.len (x : Bk) : x.enc.length = 7 := rfl
theorem Bk.one (x : Bk) : x.enc.all (·.oneCell') = true := rfl
structure Bk.Rg (x : Bk) : Prop where
  ss : U4 x.ss
  lo : By x.lo
  to : -2147483648 ≤ x.to ∧ x.to ≤ 2147483647
  hi : U4 x.hi
  ji : U4 x.ji
  ls : U4 x.ls
  dl : U4 x.dl
def Bk.fit (x : Bk) : Bool := decide (-8388608 ≤ x.to ∧ x.to ≤ 8388607)
def Bk.nums (x : Bk) : List Int := [x.ss, x.lo * 16777216 + x.to % 16777216, x.hi, x.ji, x.ls, x.dl]
def bkL (x : Bk) : List Int := x.nums.flatMap be4
def blkR (l : List Bk) : List Int × Bool := if l.all Bk.fit then (l.flatMap bkL, decide (l.length ≤ 31)) else ([], false)
theorem bkL_len (x : Bk) : (bkL x).length = 24 := rfl
theorem bkLs_len (l : List Bk) : (l.flatMap bkL).length = 24 * l.length := by
  induction l with
  | nil => rfl
  | cons a r ih => rw [List.flatMap_cons, List.length_append, ih, bkL_len]; simp; omega
theorem and32_24 (x : Int) (h0 : 0 ≤ x) (h1 : x ≤ 4294967295) : bits .and .u32 x 16777215 = x % 16777216 := by
  obtain ⟨n, rfl⟩ := Int.eq_ofNat_of_zero_le h0
  have e1 : (BitVec.ofInt 32 (n : Int) &&& BitVec.ofInt 32 16777215).toNat = n % 16777216 := by
    rw [BitVec.toNat_and, show (BitVec.ofInt 32 16777215).toNat = 2 ^ 24 - 1 from by decide, Nat.and_two_pow_sub_one_eq_mod, BitVec.ofInt_natCast, BitVec.toNat_ofNat]
    have : n % 2 ^ 32 = n := Nat.mod_eq_of_lt (by omega)
    rw [this]
  show IntKind.u32.wrap ((BitVec.ofInt 32 (n : Int) &&& BitVec.ofInt 32 16777215).toNat : Int) = _
  rw [e1, wrap32]; omega
theorem or32_24 (a c : Int) (h0 : 0 ≤ a) (h1 : a ≤ 255) (h2 : 0 ≤ c) (h3 : c < 16777216) : bits .or .u32 (a * 16777216) c = a * 16777216 + c := by
  obtain ⟨n, rfl⟩ := Int.eq_ofNat_of_zero_le h0
  obtain ⟨k, rfl⟩ := Int.eq_ofNat_of_zero_le h2
  have e1 : (BitVec.ofInt 32 ((n : Int) * 16777216) ||| BitVec.ofInt 32 (k : Int)).toNat = n * 16777216 + k := by
    rw [BitVec.toNat_or]
    have a1 : (BitVec.ofInt 32 ((n : Int) * 16777216)).toNat = n * 16777216 := by
      rw [show ((n : Int) * 16777216) = ((n * 16777216 : Nat) : Int) from by omega, BitVec.ofInt_natCast, BitVec.toNat_ofNat]
      exact Nat.mod_eq_of_lt (by show n * 16777216 < 4294967296; omega)
    have a2 : (BitVec.ofInt 32 (k : Int)).toNat = k := by
      rw [BitVec.ofInt_natCast, BitVec.toNat_ofNat]
      exact Nat.mod_eq_of_lt (by show k < 4294967296; omega)
    rw [a1, a2, Nat.mul_comm n 16777216]
    exact (Nat.two_pow_add_eq_or_of_lt (i := 24) (b := k) (by omega) n).symm.trans (by omega)
  show IntKind.u32.wrap ((BitVec.ofInt 32 ((n : Int) * 16777216) ||| BitVec.ofInt 32 (k : Int)).toNat : Int) = _
  rw [e1, wrap32]; omega
theorem Bk.nums_u4 {x : Bk} (h : x.Rg) : ∀ z, z ∈ x.nums → U4 z := by
  have h1 := h.ss; have h2 := h.lo; have h4 := h.hi; have h5 := h.ji; have h6 := h.ls; have h7 := h.dl
  intro z hz
  simp only [Bk.nums, List.mem_cons, List.not_mem_nil, or_false] at hz
  rcases hz with rfl | rfl | rfl | rfl | rfl | rfl
  · exact h1
  · unfold By at h2; unfold U4; omega
  · exact h4
  · exact h5
  · exact h6
  · exact h7
/-- What blocks are written as. -/
def BlM (L : List Blk) (z : List Int × Bool) (v : Value) (L' : List Blk) : Prop :=
  ∃ s k l, v = .tuple #[.slice s z.1.length k, .bool z.2] ∧ SlO 1 5 (.slice s z.1.length k) z.1.length (ints .u8 z.1) l ∧ L' = l ++ L
set_option maxHeartbeats 4000000 in
theorem xf_blocks {W : World} {L : List Blk} (p : Option Addr) (n c : Nat) (xs : List Bk) (hx : xs.length = n) (hr : Rs W L p (xs.flatMap Bk.enc)) (hg : ∀ x, x ∈ xs → x.Rg) (hn : n ≤ 1000000) :
    XF Try.prog W 64 #[.slice p n c] L (BlM L (blkR xs)) := by
  refine xf_enter (args := [_]) Try.func64 rfl Try.ntmps64 rfl ?_
  focus
    refine xc_seq ?_
    refine xc_region ?_
    refine xo_rd (rd_assign rfl) rfl ?_
    refine xo_rd (rd_assign rfl) rfl ?_
    refine xo_nil ?_
    refine xq_seq ?_
    refine xc_seq ?_
    refine xc_seq ?_
    refine xc_region ?_
    refine xo_rd (rd_move rfl) rfl ?_
    refine xo_rd (rd_len rfl) rfl ?_
    refine xo_rd (rd_move rfl) rfl ?_
    refine xo_nil ?_
    refine xq_seq ?_
    refine xc_block ?_
  refine xc_loopI (ι := LgS) (fun z => z.i ≤ n ∧ (∀ j (h : j < xs.length), j < z.i → xs[j].fit = true) ∧ SlO 1 5 (.slice z.s (24 * z.i) z.k) (24 * z.i) (ints .u8 ((xs.take z.i).flatMap bkL)) z.l) (fun z => n - z.i) (fun z => z.l ++ L) (fun z => [(0, .slice p n c), (2, .slice z.s (24 * z.i) z.k), (7, .slice p n c), (8, .int .i64 n), (9, .int .i64 z.i)]) ⟨0, none, 0, []⟩ ⟨Nat.zero_le _, (fun j h hj => absurd hj (Nat.not_lt_zero _)), SlO.nil⟩ rfl (by repeat (first | exact keep_nil | refine keep_cons rfl ?_)) ?_
  rintro ⟨i, s, k, l⟩ ⟨hi, hok, hO⟩
  dsimp only at hi hok hO ⊢
  by_cases hin : i < n
  · obtain ⟨b, o, hp, hc⟩ := hr.rows Bk.len (by decide) (by omega)
    subst hp
    have hci := hc i (by omega)
    have hgx := hg xs[i] (List.getElem_mem _)
    have e1 : xs.take (i + 1) = xs.take i ++ [xs[i]] := by rw [List.take_add_one, List.getElem?_eq_getElem (by omega)]; rfl
    have hbad : xs[i].fit = false → blkR xs = ([], false) := fun h => by
      unfold blkR
      rw [if_neg]
      intro ha
      have := List.all_eq_true.1 ha xs[i] (List.getElem_mem _)
      rw [h] at this; cases this
    have hok' : xs[i].fit = true → ∀ j (h : j < xs.length), j < i + 1 → xs[j].fit = true := fun h j hj hji => by
      by_cases hji2 : j < i
      · exact hok j hj hji2
      · obtain rfl : j = i := by omega
        exact h
    generalize xs[i] = x at *
    have hcI : ∀ L', (∀ z, z ∈ L → z ∈ L') → ∀ (j : Nat) (u : Value), x.enc[j]? = some u → Cl W L' b (o + (i : Int).toNat * 7 + j) u := fun L' h j u hj => (hci j u hj).mono h
    have h1 := hgx.ss; have h2 := hgx.lo; have h3 := hgx.to; have h4 := hgx.hi; have h5 := hgx.ji; have h6 := hgx.ls; have h7 := hgx.dl
    have hnu := Bk.nums_u4 hgx
    obtain ⟨ss, lo, to, hi', ji, ls, dl⟩ := x
    dsimp only [By, U4] at h1 h2 h3 h4 h5 h6 h7
    by_cases hf : -8388608 ≤ to ∧ to ≤ 8388607
    · skip
      focus
        refine xc_seq ?_
        refine xc_region ?_
        refine xo_rd (rd_lss rfl rfl) rfl ?_
        refine xo_nil ?_
        refine xq_seq ?_
        refine xc_seq ?_
        refine xc_dec rfl (fun hq1 => ?_) (fun hq1 => (by exfalso; omega))
        refine xc_skip ?_
        refine xq_seq ?_
        refine xc_seq ?_
        refine xc_block ?_
        refine xc_seq ?_
        refine xc_region ?_
        refine xo_rd (rd_indexAddr rfl rfl (by omega) (by omega)) rfl ?_
        refine xo_rd (rd_loadA (vs := [Value.int .u32 ss, .int .u8 lo, .int .i32 to, .int .u32 hi', .int .u32 ji, .int .u32 ls, .int .u32 dl]) rfl rfl (hcI _ (by intro z hz; simp [hz]))) rfl ?_
        refine xo_ef rfl (ef_alloc fun r5 => ?_)
        refine xo_ef rfl (ef_storeB [] _ rfl rfl (by first | rfl | assumption) rfl rfl rfl ?_)
        refine xo_nil ?_
        refine xq_seq ?_
        refine xc_seq ?_
        refine xc_seq ?_
        refine xc_region ?_
        refine xo_rd (rd_fieldAddr rfl) rfl ?_
        refine xo_rd (rd_load1 rfl (Cl.o0 rfl)) rfl ?_
        refine xo_rd (rd_lss rfl rfl) rfl ?_
        refine xo_rd (rd_move rfl) rfl ?_
        refine xo_dec 16 rfl (fun hq2 => (by exfalso; omega)) (fun hq2 => ?_)
        refine xo_grd rfl rfl (rd_fieldAddr rfl) rfl ?_
        refine xo_grd rfl rfl (rd_load1 rfl (Cl.o0 rfl)) rfl ?_
        refine xo_grd rfl rfl (rd_geq rfl rfl) rfl ?_
        refine xo_rd (rd_pickf rfl rfl) rfl ?_
        refine xo_nil ?_
        refine xq_seq ?_
        refine xc_dec rfl (fun hq3 => (by exfalso; omega)) (fun hq3 => ?_)
        refine xc_skip ?_
        refine xq_seq ?_
        refine xc_seq ?_
        refine xc_region ?_
        refine xo_rd (rd_fieldAddr rfl) rfl ?_
        refine xo_rd (rd_load1 rfl (Cl.o0 rfl)) rfl ?_
        refine xo_rd (rd_convn rfl (by omega) (by omega)) rfl ?_
        refine xo_rd (rd_cast (v' := .int .u32 (lo * 16777216)) (rd_shl rfl rfl (by decide) (by decide)) (congrArg (Value.int .u32) (show IntKind.u32.wrap (lo * 16777216) = lo * 16777216 from KB.h _ (by omega) (by omega)))) rfl ?_
        refine xo_rd (rd_fieldAddr rfl) rfl ?_
        refine xo_rd (rd_load1 rfl (Cl.o0 rfl)) rfl ?_
        refine xo_rd (rd_cast (v' := .int .u32 (to % 4294967296)) (rd_conv rfl) (congrArg (Value.int .u32) (wrap32 to))) rfl ?_
        refine xo_rd (rd_cast (v' := .int .u32 (to % 16777216)) (rd_and rfl rfl) (congrArg (Value.int .u32) (by rw [and32_24 (to % 4294967296) (by omega) (by omega)]; omega))) rfl ?_
        refine xo_rd (rd_cast (v' := .int .u32 (lo * 16777216 + to % 16777216)) (rd_or rfl rfl) (congrArg (Value.int .u32) (or32_24 lo (to % 16777216) h2.1 h2.2 (by omega) (by omega)))) rfl ?_
        refine xo_rd (rd_assign rfl) rfl ?_
        refine xo_nil ?_
        refine xq_seq ?_
        refine xc_region ?_
        refine xo_rd (rd_move rfl) rfl ?_
        refine xo_rd (rd_fieldAddr rfl) rfl ?_
        refine xo_rd (rd_load1 rfl (Cl.o0 rfl)) rfl ?_
        refine xo_rd (rd_move rfl) rfl ?_
        refine xo_rd (rd_fieldAddr rfl) rfl ?_
        refine xo_rd (rd_load1 rfl (Cl.o0 rfl)) rfl ?_
        refine xo_rd (rd_fieldAddr rfl) rfl ?_
        refine xo_rd (rd_load1 rfl (Cl.o0 rfl)) rfl ?_
        refine xo_rd (rd_fieldAddr rfl) rfl ?_
        refine xo_rd (rd_load1 rfl (Cl.o0 rfl)) rfl ?_
        refine xo_rd (rd_fieldAddr rfl) rfl ?_
        refine xo_rd (rd_load1 rfl (Cl.o0 rfl)) rfl ?_
        refine xo_ef rfl (ef_buildL (T := 48) (len := 6) (s := 1) (cells := (ints .u32 [ss, lo * 16777216 + to % 16777216, hi', ji, ls, dl]).toArray) rfl (by decide) (by decide) (by kernel_rfl) fun r42 => ?_)
        refine xo_ef rfl (ef_call rfl (XF.mono (xf_long (some ⟨r42, 0, none⟩) 6 6 [ss, lo * 16777216 + to % 16777216, hi', ji, ls, dl] rfl (Rs.fresh (List.Mem.head _)) hnu (by decide)) ?_))
        rintro v L' ⟨s2, k2, l2, rfl, hO2, rfl⟩
        refine xo_ef rfl (ef_appendG (l2 ++ [(r42, .cells (ints .u32 [ss, lo * 16777216 + to % 16777216, hi', ji, ls, dl]).toArray 24 (0, 0)), (r5, .cells #[Value.int .u32 ss, .int .u8 lo, .int .i32 to, .int .u32 hi', .int .u32 ji, .int .u32 ls, .int .u32 dl] 30 (0, 0))]) L l (news := ints .u8 (bkL ⟨ss, lo, to, hi', ji, ls, dl⟩)) rfl rfl hO (by simp) (hO2.rs (by intro z hz; simp [hz])) rfl (ints_one _ _) (by decide) (by omega) (by omega) fun s3 k3' l3 hO3 hk3 => ?_)
        refine xo_rd (rd_assign rfl) rfl ?_
        refine xo_nil ?_
        refine xq_block ?_
        refine xq_seq ?_
        refine xc_region ?_
        refine xo_rd (rd_addn rfl rfl (by omega) (by omega)) rfl ?_
        refine xo_rd (rd_move rfl) rfl ?_
        refine xo_nil ?_
      all_goals refine xq_roundI (⟨i + 1, s3, k3', l3⟩ : LgS) ⟨by dsimp only; omega, hok' (decide_eq_true hf), ?_⟩ (by dsimp only; omega) rfl (by repeat (first | exact keep_nil | refine keep_cons rfl ?_))
      all_goals (dsimp only; rw [e1, List.flatMap_append, List.flatMap_singleton, ints_app]; exact hO3)
    · skip
      rw [hbad (decide_eq_false hf)]
      focus
        refine xc_seq ?_
        refine xc_region ?_
        refine xo_rd (rd_lss rfl rfl) rfl ?_
        refine xo_nil ?_
        refine xq_seq ?_
        refine xc_seq ?_
        refine xc_dec rfl (fun hq1 => ?_) (fun hq1 => (by exfalso; omega))
        refine xc_skip ?_
        refine xq_seq ?_
        refine xc_seq ?_
        refine xc_block ?_
        refine xc_seq ?_
        refine xc_region ?_
        refine xo_rd (rd_indexAddr rfl rfl (by omega) (by omega)) rfl ?_
        refine xo_rd (rd_loadA (vs := [Value.int .u32 ss, .int .u8 lo, .int .i32 to, .int .u32 hi', .int .u32 ji, .int .u32 ls, .int .u32 dl]) rfl rfl (hcI _ (by intro z hz; simp [hz]))) rfl ?_
        refine xo_ef rfl (ef_alloc fun r5 => ?_)
        refine xo_ef rfl (ef_storeB [] _ rfl rfl (by first | rfl | assumption) rfl rfl rfl ?_)
        refine xo_nil ?_
        refine xq_seq ?_
        refine xc_seq ?_
        refine xc_seq ?_
        refine xc_region ?_
        refine xo_rd (rd_fieldAddr rfl) rfl ?_
        refine xo_rd (rd_load1 rfl (Cl.o0 rfl)) rfl ?_
        refine xo_rd (rd_lss rfl rfl) rfl ?_
        refine xo_rd (rd_move rfl) rfl ?_
        refine xo_dec 16 rfl (fun hq2 => ?_) (fun hq2 => ?_)
        refine xo_gskip rfl rfl rfl rfl ?_
        refine xo_gskip rfl rfl rfl rfl ?_
        refine xo_gskip rfl rfl rfl rfl ?_
        refine xo_rd (rd_pickt rfl rfl) rfl ?_
        refine xo_nil ?_
        refine xq_seq ?_
        refine xc_condt rfl ?_
        refine xc_seq ?_
        refine xc_region ?_
        refine xo_rd (rd_assign rfl) rfl ?_
        refine xo_rd (rd_assign rfl) rfl ?_
        refine xo_nil ?_
        refine xq_seq ?_
        refine xc_ret ?_
        refine xq_then_ret ?_
        refine xq_block_ret ?_
        refine xq_then_ret ?_
        refine xq_then_ret ?_
        refine xq_block_ret ?_
        refine xq_then_ret ?_
        rotate_left
        refine xo_grd rfl rfl (rd_fieldAddr rfl) rfl ?_
        refine xo_grd rfl rfl (rd_load1 rfl (Cl.o0 rfl)) rfl ?_
        refine xo_grd rfl rfl (rd_geq rfl rfl) rfl ?_
        refine xo_rd (rd_pickf rfl rfl) rfl ?_
        refine xo_nil ?_
        refine xq_seq ?_
        refine xc_dec rfl (fun hq3 => ?_) (fun hq3 => (by exfalso; omega))
        refine xc_seq ?_
        refine xc_region ?_
        refine xo_rd (rd_assign rfl) rfl ?_
        refine xo_rd (rd_assign rfl) rfl ?_
        refine xo_nil ?_
        refine xq_seq ?_
        refine xc_ret ?_
        refine xq_then_ret ?_
        refine xq_block_ret ?_
        refine xq_then_ret ?_
        refine xq_then_ret ?_
        refine xq_block_ret ?_
        refine xq_then_ret ?_
        rotate_left
      all_goals exact xq_sub ((List.sublist_append_right l L).trans (List.sublist_cons_self _ _)) (xq_ret2 (.inl rfl) Try.results64 rfl rfl ⟨none, 0, [], rfl, SlO.nil, rfl⟩)
  · focus
      refine xc_seq ?_
      refine xc_region ?_
      refine xo_rd (rd_lss rfl rfl) rfl ?_
      refine xo_nil ?_
      refine xq_seq ?_
      refine xc_seq ?_
      refine xc_dec rfl (fun h1 => (by exfalso; omega)) (fun h1 => ?_)
      refine xc_exit ?_
      refine xq_then_exit ?_
      refine xq_then_exit ?_
      refine xq_block_hit ?_
      refine xq_seq ?_
      refine xc_seq ?_
      refine xc_region ?_
      refine xo_rd (rd_move rfl) rfl ?_
      refine xo_rd (rd_move rfl) rfl ?_
      refine xo_rd (rd_len rfl) rfl ?_
      refine xo_rd (rd_leq rfl rfl) rfl ?_
      refine xo_rd (rd_assign rfl) rfl ?_
      refine xo_rd (rd_assign rfl) rfl ?_
      refine xo_nil ?_
      refine xq_seq ?_
      refine xc_ret ?_
    obtain rfl : i = n := by omega
    rw [List.take_of_length_le (by omega)] at hO
    have hall : xs.all Bk.fit = true := List.all_eq_true.2 fun x hx => by
      obtain ⟨j, hj, rfl⟩ := List.getElem_of_mem hx
      exact hok j hj (by omega)
    have e2 : blkR xs = (xs.flatMap bkL, decide ((i : Int) ≤ 31)) := by
      unfold blkR
      rw [if_pos hall]
      refine Prod.ext rfl ?_
      show decide (xs.length ≤ 31) = _
      rw [decide_eq_decide]; omega
    have hl : (xs.flatMap bkL).length = 24 * i := by rw [bkLs_len, hx]
    rw [e2]
    refine xq_ret2 (.inl rfl) Try.results64 rfl rfl ⟨s, k, l, ?_, by dsimp only; rw [hl]; exact hO, rfl⟩
    dsimp only; rw [hl]
end Go.Proofs.Ytogilblilljpmaa.X
/-
  What is told is put: walks of my own.
-/
namespace Go.Proofs.Ytogilblilljpmaa.X
open Go Go.RowKit
set_option linter.unusedVariables false
set_option linter.unusedSimpArgs false
theorem perm_in2 {a b : Blk} (l R : List Blk) : (l ++ (a :: b :: R)).Perm (a :: b :: (l ++ R)) := (by classical exact List.perm_iff_count.2 fun a => by simp only [List.append_eq, List.count_append, List.count_cons, List.count_nil, List.cons_append, List.nil_append, List.flatMap_append, List.flatMap_cons, List.flatMap_nil, List.append_nil]; omega)
theorem perm_in3 {a b c : Blk} (l R : List Blk) : (l ++ (a :: b :: c :: R)).Perm (a :: b :: c :: (l ++ R)) := (by classical exact List.perm_iff_count.2 fun a => by simp only [List.append_eq, List.count_append, List.count_cons, List.count_nil, List.cons_append, List.nil_append, List.flatMap_append, List.flatMap_cons, List.flatMap_nil, List.append_nil]; omega)
/-- What a packet is put as. -/
def PuM (L : List Blk) (z : Pc × Int) (v : Value) (L' : List Blk) : Prop :=
  ∃ x : Pb, v = .tuple #[.agg x.enc.toArray, .int .i64 z.2] ∧ x.q = z.1 ∧ x.Ok ∧ L' = x.l ++ L
theorem PuM.err {L : List Blk} (e : Int) : PuM L (.zero, e) (.tuple #[.agg (Pb.enc ⟨.zero, none, 0, []⟩).toArray, .int .i64 e]) L := ⟨⟨.zero, none, 0, []⟩, rfl, rfl, SlO.nil, rfl⟩
structure Sn where
  ss : Int
  nt : Int
  rt : Int
  pk : Int
  oc : Int
  bl : List Bk
structure Sn.Rg (x : Sn) : Prop where
  ss : U4 x.ss
  nt : 0 ≤ x.nt ∧ x.nt ≤ 18446744073709551615
  rt : U4 x.rt
  pk : U4 x.pk
  oc : U4 x.oc
  bl : ∀ b, b ∈ x.bl → b.Rg
def Sn.enc (x : Sn) (v : Value) : List Value := [.int .u32 x.ss, .int .u64 x.nt, .int .u32 x.rt, .int .u32 x.pk, .int .u32 x.oc, v]
def Sn.nums (x : Sn) : List Int := [x.ss, x.nt / 4294967296, x.nt % 4294967296, x.rt, x.pk, x.oc]
def sndR (x : Sn) : Pc × Int := if (blkR x.bl).2 then (⟨x.bl.length, 200, x.nums.flatMap be4 ++ x.bl.flatMap bkL, 0⟩, 0) else (.zero, 2)
def rcvR (ss : Int) (bl : List Bk) : Pc × Int := if (blkR bl).2 then (⟨bl.length, 201, [ss].flatMap be4 ++ bl.flatMap bkL, 0⟩, 0) else (.zero, 2)
theorem blkR_ok {bl : List Bk} (h : (blkR bl).2 = true) : bl.length ≤ 31 ∧ (blkR bl).1 = bl.flatMap bkL ∧ ∀ b, b ∈ bl → b.fit = true := by
  unfold blkR at h ⊢
  by_cases ha : bl.all Bk.fit = true
  · rw [if_pos ha] at h ⊢
    exact ⟨of_decide_eq_true h, rfl, List.all_eq_true.1 ha⟩
  · rw [if_neg ha] at h; cases h
theorem xf_blocks2 {W : World} {L : List Blk} (p : Option Addr) (n c : Nat) (xs : List Bk) (out : List Int) (ok : Bool) (hb : blkR xs = (out, ok)) (hx : xs.length = n) (hr : Rs W L p (xs.flatMap Bk.enc)) (hg : ∀ x, x ∈ xs → x.Rg) (hn : n ≤ 1000000) :
    XF Try.prog W 64 #[.slice p n c] L (fun v L' => ∃ s k l, v = .tuple #[.slice s out.length k, .bool ok] ∧ SlO 1 5 (.slice s out.length k) out.length (ints .u8 out) l ∧ L' = l ++ L) := by
  have := xf_blocks p n c xs hx hr hg hn
  rwa [hb] at this
set_option maxHeartbeats 4000000 in
theorem xf_receiver {W : World} {L : List Blk} (ss : Int) (hs : U4 ss) (p : Option Addr) (n c : Nat) (xs : List Bk) (hx : xs.length = n) (hr : Rs W L p (xs.flatMap Bk.enc)) (hg : ∀ x, x ∈ xs → x.Rg) (hn : n ≤ 1000000) :
    XF Try.prog W 44 #[.agg #[.int .u32 ss, .slice p n c]] L (PuM L (rcvR ss xs)) := by
  refine xf_enter (args := [_]) Try.func44 rfl Try.ntmps44 rfl ?_
  obtain ⟨⟨out, ok⟩, hb⟩ : ∃ z, blkR xs = z := ⟨_, rfl⟩
  have hbo := blkR_ok (bl := xs)
  rw [hb] at hbo
  dsimp only at hbo
  unfold rcvR
  rw [hb]
  dsimp only
  have hu : ∀ z, z ∈ [ss] → U4 z := fun z hz => by rw [List.mem_singleton.1 hz]; exact hs
  cases ok with
  | false =>
    rw [if_neg (by decide)]
    focus
      refine xc_seq ?_
      refine xc_region ?_
      refine xo_ef rfl (ef_box rfl fun r1 => ?_)
      refine xo_ef rfl (ef_alloc fun r2 => ?_)
      refine xo_rd (rd_assign rfl) rfl ?_
      refine xo_nil ?_
      refine xq_seq ?_
      refine xc_seq ?_
      refine xc_region ?_
      refine xo_rd (rd_fieldAddr rfl) rfl ?_
      refine xo_rd (rd_load1 rfl (Cl.o1 rfl)) rfl ?_
      refine xo_ef rfl (ef_call rfl (XF.mono (xf_blocks2 p n c xs out _ hb hx (hr.mono (by intro z hz; simp [hz])) hg hn) ?_))
      rintro v L' ⟨s, k, lb, rfl, hO, rfl⟩
      refine xo_perm (perm_in2 lb L) ?_
      refine xo_rd (rd_move rfl) rfl ?_
      refine xo_rd (rd_extract rfl rfl) rfl ?_
      refine xo_rd (rd_extract rfl rfl) rfl ?_
      refine xo_rd (rd_assign rfl) rfl ?_
      refine xo_rd (rd_assign rfl) rfl ?_
      refine xo_nil ?_
      refine xq_seq ?_
      refine xc_seq ?_
      refine xc_seq ?_
      refine xc_region ?_
      refine xo_rd (rd_move rfl) rfl ?_
      refine xo_rd (rd_not rfl) rfl ?_
      refine xo_nil ?_
      refine xq_seq ?_
      refine xc_condt rfl ?_
      refine xc_seq ?_
      refine xc_region ?_
      refine xo_rd (rd_build rfl rfl rfl) rfl ?_
      refine xo_ef rfl (ef_storeB [] _ rfl rfl (by first | rfl | assumption) rfl rfl rfl ?_)
      refine xo_rd (rd_assign rfl) rfl ?_
      refine xo_nil ?_
      refine xq_seq ?_
      refine xc_ret ?_
      refine xq_then_ret ?_
    exact xq_retB2 (.inl rfl) Try.results44 rfl rfl Kn.o0 rfl ((List.sublist_append_right lb L).trans ((List.sublist_cons_self _ _).trans (List.sublist_cons_self _ _))) (PuM.err 2)
  | true =>
    obtain ⟨h31, ho, hfit⟩ := hbo rfl
    rw [if_pos rfl]
    have hol : out.length = 24 * n := by rw [ho, bkLs_len, hx]
    focus
      refine xc_seq ?_
      refine xc_region ?_
      refine xo_ef rfl (ef_box rfl fun r1 => ?_)
      refine xo_ef rfl (ef_alloc fun r2 => ?_)
      refine xo_rd (rd_assign rfl) rfl ?_
      refine xo_nil ?_
      refine xq_seq ?_
      refine xc_seq ?_
      refine xc_region ?_
      refine xo_rd (rd_fieldAddr rfl) rfl ?_
      refine xo_rd (rd_load1 rfl (Cl.o1 rfl)) rfl ?_
      refine xo_ef rfl (ef_call rfl (XF.mono (xf_blocks2 p n c xs out _ hb hx (hr.mono (by intro z hz; simp [hz])) hg hn) ?_))
      rintro v L' ⟨s, k, lb, rfl, hO, rfl⟩
      refine xo_perm (perm_in2 lb L) ?_
      refine xo_rd (rd_move rfl) rfl ?_
      refine xo_rd (rd_extract rfl rfl) rfl ?_
      refine xo_rd (rd_extract rfl rfl) rfl ?_
      refine xo_rd (rd_assign rfl) rfl ?_
      refine xo_rd (rd_assign rfl) rfl ?_
      refine xo_nil ?_
      refine xq_seq ?_
      refine xc_seq ?_
      refine xc_seq ?_
      refine xc_region ?_
      refine xo_rd (rd_move rfl) rfl ?_
      refine xo_rd (rd_not rfl) rfl ?_
      refine xo_nil ?_
      refine xq_seq ?_
      refine xc_condf rfl ?_
      refine xc_skip ?_
      refine xq_seq ?_
      refine xc_seq ?_
      refine xc_drawM [0, 1, 2, 4, 0, 16, 32, 64, 0, 384, 520, 2047, 4095] [0, 1, 2, 4, 0, 16, 32, 64, 0, 384, 520, 2047, 4095] ([(r1, .cells #[.int .u32 ss, .slice p n c] 83 (0, 0))]) (by kernel_rfl) (by kernel_rfl) (by kernel_rfl) ?_
      refine xm_take 0 (m' := 1) rfl (by kernel_rfl) (by first | exact Sb.refl | exact Sb.nil | (repeat (first | exact Sb.nil | exact Sb.refl | exact Sb.app0 | apply Sb.keep | apply Sb.keepApp | apply Sb.cons | apply Sb.app))) (rd_fieldAddr rfl) rfl (by kernel_rfl) ?_
      refine xm_take 1 (m' := 3) rfl (by kernel_rfl) (by first | exact Sb.refl | exact Sb.nil | (repeat (first | exact Sb.nil | exact Sb.refl | exact Sb.app0 | apply Sb.keep | apply Sb.keepApp | apply Sb.cons | apply Sb.app))) (rd_load1 rfl (Cl.o0 rfl)) rfl (by kernel_rfl) ?_
      refine xm_take 2 (m' := 7) rfl (by kernel_rfl) (by first | exact Sb.refl | exact Sb.nil | (repeat (first | exact Sb.nil | exact Sb.refl | exact Sb.app0 | apply Sb.keep | apply Sb.keepApp | apply Sb.cons | apply Sb.app))) (rd_len rfl) rfl (by kernel_rfl) ?_
      refine xm_take 3 (m' := 15) rfl (by kernel_rfl) (by first | exact Sb.refl | exact Sb.nil | (repeat (first | exact Sb.nil | exact Sb.refl | exact Sb.app0 | apply Sb.keep | apply Sb.keepApp | apply Sb.cons | apply Sb.app))) (rd_convn rfl (by omega) (by omega)) rfl (by kernel_rfl) ?_
      refine xm_take 4 (m' := 31) rfl (by kernel_rfl) (by first | exact Sb.refl | exact Sb.nil | (repeat (first | exact Sb.nil | exact Sb.refl | exact Sb.app0 | apply Sb.keep | apply Sb.keepApp | apply Sb.cons | apply Sb.app))) (rd_fieldAddr rfl) rfl (by kernel_rfl) ?_
      refine xm_take 5 (m' := 63) rfl (by kernel_rfl) (by first | exact Sb.refl | exact Sb.nil | (repeat (first | exact Sb.nil | exact Sb.refl | exact Sb.app0 | apply Sb.keep | apply Sb.keepApp | apply Sb.cons | apply Sb.app))) (rd_load1 rfl (Cl.o0 rfl)) rfl (by kernel_rfl) ?_
      refine xm_take 8 (m' := 319) rfl (by kernel_rfl) (by first | exact Sb.refl | exact Sb.nil | (repeat (first | exact Sb.nil | exact Sb.refl | exact Sb.app0 | apply Sb.keep | apply Sb.keepApp | apply Sb.cons | apply Sb.app))) (rd_move rfl) rfl (by kernel_rfl) ?_
      refine xm_one 6 (m' := 383) rfl (by kernel_rfl) rfl (by kernel_rfl) (ef_slice1 rfl rfl rfl fun r21 => ?_)
      refine ⟨(by first | exact Sb.refl | exact Sb.nil | (repeat (first | exact Sb.nil | exact Sb.refl | exact Sb.app0 | apply Sb.keep | apply Sb.keepApp | apply Sb.cons | apply Sb.app))), ?_⟩
      refine xm_one 7 (m' := 511) rfl (by kernel_rfl) rfl (by kernel_rfl) (ef_call rfl (XF.mono (xf_long (some ⟨r21, 0, none⟩) 1 1 [ss] rfl (Rs.fresh (List.Mem.head _)) hu (by decide)) ?_))
      rintro v L' ⟨s2, k2, l2, rfl, hO2, rfl⟩
      refine xmx_perm (perm_in3 l2 (lb ++ L)) ?_
      refine ⟨(by first | exact Sb.refl | exact Sb.nil | (repeat (first | exact Sb.nil | exact Sb.refl | exact Sb.app0 | apply Sb.keep | apply Sb.keepApp | apply Sb.cons | apply Sb.app))), ?_⟩
      refine xm_one 9 (m' := 1023) rfl (by kernel_rfl) rfl (by kernel_rfl) (ef_appendS [_, _, _] (lb ++ L) l2 (news := ints .u8 out) rfl rfl hO2 rfl (hO.rs (by intro z hz; simp [hz])) (by rw [ints_len, Nat.mul_one]) (ints_one _ _) (by decide) (by omega) (by omega) fun s3 k3 l3 hO3 hk3 => ?_)
      refine ⟨(by first | exact Sb.refl | exact Sb.nil | (repeat (first | exact Sb.nil | exact Sb.refl | exact Sb.app0 | apply Sb.keep | apply Sb.keepApp | apply Sb.cons | apply Sb.app))), ?_⟩
      refine xm_take 10 (m' := 2047) rfl (by kernel_rfl) (by first | exact Sb.refl | exact Sb.nil | (repeat (first | exact Sb.nil | exact Sb.refl | exact Sb.app0 | apply Sb.keep | apply Sb.keepApp | apply Sb.cons | apply Sb.app))) (rd_build rfl rfl rfl) rfl (by kernel_rfl) ?_
      refine xm_one 11 (m' := 4095) rfl (by kernel_rfl) rfl (by kernel_rfl) (ef_storeB [_] _ rfl rfl (by first | rfl | assumption) rfl rfl rfl ?_)
      refine ⟨(by first | exact Sb.refl | exact Sb.nil | (repeat (first | exact Sb.nil | exact Sb.refl | exact Sb.app0 | apply Sb.keep | apply Sb.keepApp | apply Sb.cons | apply Sb.app))), ?_⟩
      refine xm_take 12 (m' := 8191) rfl (by kernel_rfl) (by first | exact Sb.refl | exact Sb.nil | (repeat (first | exact Sb.nil | exact Sb.refl | exact Sb.app0 | apply Sb.keep | apply Sb.keepApp | apply Sb.cons | apply Sb.app))) (rd_assign rfl) rfl (by kernel_rfl) ?_
      refine xm_done (by kernel_rfl) ?_
      refine xq_seq ?_
      refine xc_ret ?_
    have hbl : ([ss].flatMap be4 ++ xs.flatMap bkL).length = 4 * 1 + out.length := by rw [List.length_append, flat4_len, ho]; rfl
    refine xq_retB2 (.inl rfl) Try.results44 rfl rfl Kn.o1 rfl ((List.Sublist.append_left (List.sublist_append_right lb L) l3).trans ((List.sublist_cons_self _ _).trans ((List.sublist_cons_self _ _).trans (List.sublist_cons_self _ _)))) ⟨⟨⟨xs.length, 201, [ss].flatMap be4 ++ xs.flatMap bkL, 0⟩, s3, k3, l3⟩, ?_, rfl, ?_, rfl⟩
    · unfold Pb.enc Pc.enc; dsimp only; rw [hbl, hx]; rfl
    · unfold Pb.Ok; dsimp only; rw [hbl, ints_app, ← ho]; exact hO3
theorem Sn.nums_u4 {x : Sn} (h : x.Rg) : ∀ z, z ∈ x.nums → U4 z := by
  have h1 := h.ss; have h2 := h.nt; have h3 := h.rt; have h4 := h.pk; have h5 := h.oc
  intro z hz
  simp only [Sn.nums, List.mem_cons, List.not_mem_nil, or_false] at hz
  rcases hz with rfl | rfl | rfl | rfl | rfl | rfl
  · exact h1
  · unfold U4; omega
  · unfold U4; omega
  · exact h3
  · exact h4
  · exact h5
set_option maxHeartbeats 4000000 in
theorem xf_sender {W : World} {L : List Blk} (x : Sn) (hx : x.Rg) (p : Option Addr) (c : Nat) (hr : Rs W L p (x.bl.flatMap Bk.enc)) (hn : x.bl.length ≤ 1000000) :
    XF Try.prog W 45 #[.agg (x.enc (.slice p x.bl.length c)).toArray] L (PuM L (sndR x)) := by
  refine xf_enter (args := [_]) Try.func45 rfl Try.ntmps45 rfl ?_
  have hu := Sn.nums_u4 hx
  have g1 := hx.ss; have g2 := hx.nt; have g3 := hx.rt; have g4 := hx.pk; have g5 := hx.oc; have hg := hx.bl
  obtain ⟨ss, nt, rt, pk, oc, xs⟩ := x
  dsimp only [U4, Sn.nums] at hr hn g1 g2 g3 g4 g5 hg hu
  obtain ⟨⟨out, ok⟩, hb⟩ : ∃ z, blkR xs = z := ⟨_, rfl⟩
  have hbo := blkR_ok (bl := xs)
  rw [hb] at hbo
  dsimp only at hbo
  unfold sndR Sn.enc Sn.nums
  dsimp only
  rw [hb]
  dsimp only
  cases ok with
  | false =>
    rw [if_neg (by decide)]
    focus
      refine xc_seq ?_
      refine xc_region ?_
      refine xo_ef rfl (ef_box rfl fun r1 => ?_)
      refine xo_ef rfl (ef_alloc fun r2 => ?_)
      refine xo_rd (rd_assign rfl) rfl ?_
      refine xo_nil ?_
      refine xq_seq ?_
      refine xc_seq ?_
      refine xc_region ?_
      refine xo_rd (rd_fieldAddr rfl) rfl ?_
      refine xo_rd (rd_load1 rfl (Cl.o1 rfl)) rfl ?_
      refine xo_ef rfl (ef_call rfl (XF.mono (xf_blocks2 p xs.length c xs out _ hb rfl (hr.mono (by intro z hz; simp [hz])) hg hn) ?_))
      rintro v L' ⟨s, k, lb, rfl, hO, rfl⟩
      refine xo_perm (perm_in2 lb L) ?_
      refine xo_rd (rd_move rfl) rfl ?_
      refine xo_rd (rd_extract rfl rfl) rfl ?_
      refine xo_rd (rd_extract rfl rfl) rfl ?_
      refine xo_rd (rd_assign rfl) rfl ?_
      refine xo_rd (rd_assign rfl) rfl ?_
      refine xo_nil ?_
      refine xq_seq ?_
      refine xc_seq ?_
      refine xc_seq ?_
      refine xc_region ?_
      refine xo_rd (rd_move rfl) rfl ?_
      refine xo_rd (rd_not rfl) rfl ?_
      refine xo_nil ?_
      refine xq_seq ?_
      refine xc_condt rfl ?_
      refine xc_seq ?_
      refine xc_region ?_
      refine xo_rd (rd_build rfl rfl rfl) rfl ?_
      refine xo_ef rfl (ef_storeB [] _ rfl rfl (by first | rfl | assumption) rfl rfl rfl ?_)
      refine xo_rd (rd_assign rfl) rfl ?_
      refine xo_nil ?_
      refine xq_seq ?_
      refine xc_ret ?_
      refine xq_then_ret ?_
    exact xq_retB2 (.inl rfl) Try.results45 rfl rfl Kn.o0 rfl ((List.sublist_append_right lb L).trans ((List.sublist_cons_self _ _).trans (List.sublist_cons_self _ _))) (PuM.err 2)
  | true =>
    obtain ⟨h31, ho, hfit⟩ := hbo rfl
    rw [if_pos rfl]
    have hol : out.length = 24 * xs.length := by rw [ho, bkLs_len]
    focus
      refine xc_seq ?_
      refine xc_region ?_
      refine xo_ef rfl (ef_box rfl fun r1 => ?_)
      refine xo_ef rfl (ef_alloc fun r2 => ?_)
      refine xo_rd (rd_assign rfl) rfl ?_
      refine xo_nil ?_
      refine xq_seq ?_
      refine xc_seq ?_
      refine xc_region ?_
      refine xo_rd (rd_fieldAddr rfl) rfl ?_
      refine xo_rd (rd_load1 rfl (Cl.o1 rfl)) rfl ?_
      refine xo_ef rfl (ef_call rfl (XF.mono (xf_blocks2 p xs.length c xs out _ hb rfl (hr.mono (by intro z hz; simp [hz])) hg hn) ?_))
      rintro v L' ⟨s, k, lb, rfl, hO, rfl⟩
      refine xo_perm (perm_in2 lb L) ?_
      refine xo_rd (rd_move rfl) rfl ?_
      refine xo_rd (rd_extract rfl rfl) rfl ?_
      refine xo_rd (rd_extract rfl rfl) rfl ?_
      refine xo_rd (rd_assign rfl) rfl ?_
      refine xo_rd (rd_assign rfl) rfl ?_
      refine xo_nil ?_
      refine xq_seq ?_
      refine xc_seq ?_
      refine xc_seq ?_
      refine xc_region ?_
      refine xo_rd (rd_move rfl) rfl ?_
      refine xo_rd (rd_not rfl) rfl ?_
      refine xo_nil ?_
      refine xq_seq ?_
      refine xc_condf rfl ?_
      refine xc_skip ?_
      refine xq_seq ?_
      refine xc_seq ?_
      refine xc_region ?_
      refine xo_rd (rd_fieldAddr rfl) rfl ?_
      refine xo_rd (rd_load1 rfl (Cl.o1 rfl)) rfl ?_
      refine xo_rd (rd_fieldAddr rfl) rfl ?_
      refine xo_rd (rd_load1 rfl (Cl.o1 rfl)) rfl ?_
      refine xo_rd (rd_cast (v' := .int .u64 (nt / 4294967296)) (rd_shr rfl rfl (by decide) (by decide)) rfl) rfl ?_
      refine xo_rd (rd_convn rfl (by omega) (by omega)) rfl ?_
      refine xo_rd (rd_fieldAddr rfl) rfl ?_
      refine xo_rd (rd_load1 rfl (Cl.o1 rfl)) rfl ?_
      refine xo_rd (rd_cast (v' := .int .u32 (nt % 4294967296)) (rd_conv rfl) (congrArg (Value.int .u32) (wrap32 nt))) rfl ?_
      refine xo_rd (rd_fieldAddr rfl) rfl ?_
      refine xo_rd (rd_load1 rfl (Cl.o1 rfl)) rfl ?_
      refine xo_rd (rd_fieldAddr rfl) rfl ?_
      refine xo_rd (rd_load1 rfl (Cl.o1 rfl)) rfl ?_
      refine xo_rd (rd_fieldAddr rfl) rfl ?_
      refine xo_rd (rd_load1 rfl (Cl.o1 rfl)) rfl ?_
      refine xo_ef rfl (ef_buildL (T := 48) (len := 6) (s := 1) (cells := (ints .u32 [ss, nt / 4294967296, nt % 4294967296, rt, pk, oc]).toArray) rfl (by decide) (by decide) (by kernel_rfl) fun r31 => ?_)
      refine xo_ef rfl (ef_call rfl (XF.mono (xf_long (some ⟨r31, 0, none⟩) 6 6 [ss, nt / 4294967296, nt % 4294967296, rt, pk, oc] rfl (Rs.fresh (List.Mem.head _)) hu (by decide)) ?_))
      rintro v L' ⟨s2, k2, l2, rfl, hO2, rfl⟩
      refine xo_perm (perm_in3 l2 (lb ++ L)) ?_
      refine xo_rd (rd_assign rfl) rfl ?_
      refine xo_nil ?_
      refine xq_seq ?_
      refine xc_seq ?_
      refine xc_drawM [0, 1, 2, 4, 0, 0, 48, 72, 255, 511] [0, 1, 2, 4, 0, 0, 48, 72, 255, 511] ([(r1, .cells #[.int .u32 ss, .int .u64 nt, .int .u32 rt, .int .u32 pk, .int .u32 oc, .slice p xs.length c] 43 (0, 0))]) (by kernel_rfl) (by kernel_rfl) (by kernel_rfl) ?_
      refine xm_take 0 (m' := 1) rfl (by kernel_rfl) (by first | exact Sb.refl | exact Sb.nil | (repeat (first | exact Sb.nil | exact Sb.refl | exact Sb.app0 | apply Sb.keep | apply Sb.keepApp | apply Sb.cons | apply Sb.app))) (rd_fieldAddr rfl) rfl (by kernel_rfl) ?_
      refine xm_take 1 (m' := 3) rfl (by kernel_rfl) (by first | exact Sb.refl | exact Sb.nil | (repeat (first | exact Sb.nil | exact Sb.refl | exact Sb.app0 | apply Sb.keep | apply Sb.keepApp | apply Sb.cons | apply Sb.app))) (rd_load1 rfl (Cl.o0 rfl)) rfl (by kernel_rfl) ?_
      refine xm_take 2 (m' := 7) rfl (by kernel_rfl) (by first | exact Sb.refl | exact Sb.nil | (repeat (first | exact Sb.nil | exact Sb.refl | exact Sb.app0 | apply Sb.keep | apply Sb.keepApp | apply Sb.cons | apply Sb.app))) (rd_len rfl) rfl (by kernel_rfl) ?_
      refine xm_take 3 (m' := 15) rfl (by kernel_rfl) (by first | exact Sb.refl | exact Sb.nil | (repeat (first | exact Sb.nil | exact Sb.refl | exact Sb.app0 | apply Sb.keep | apply Sb.keepApp | apply Sb.cons | apply Sb.app))) (rd_convn rfl (by omega) (by omega)) rfl (by kernel_rfl) ?_
      refine xm_take 4 (m' := 31) rfl (by kernel_rfl) (by first | exact Sb.refl | exact Sb.nil | (repeat (first | exact Sb.nil | exact Sb.refl | exact Sb.app0 | apply Sb.keep | apply Sb.keepApp | apply Sb.cons | apply Sb.app))) (rd_move rfl) rfl (by kernel_rfl) ?_
      refine xm_take 5 (m' := 63) rfl (by kernel_rfl) (by first | exact Sb.refl | exact Sb.nil | (repeat (first | exact Sb.nil | exact Sb.refl | exact Sb.app0 | apply Sb.keep | apply Sb.keepApp | apply Sb.cons | apply Sb.app))) (rd_move rfl) rfl (by kernel_rfl) ?_
      refine xm_one 6 (m' := 127) rfl (by kernel_rfl) rfl (by kernel_rfl) (ef_appendS [_, _, _] (lb ++ L) l2 (news := ints .u8 out) rfl rfl hO2 rfl (hO.rs (by intro z hz; simp [hz])) (by rw [ints_len, Nat.mul_one]) (ints_one _ _) (by decide) (by omega) (by omega) fun s3 k3 l3 hO3 hk3 => ?_)
      refine ⟨(by first | exact Sb.refl | exact Sb.nil | (repeat (first | exact Sb.nil | exact Sb.refl | exact Sb.app0 | apply Sb.keep | apply Sb.keepApp | apply Sb.cons | apply Sb.app))), ?_⟩
      refine xm_take 7 (m' := 255) rfl (by kernel_rfl) (by first | exact Sb.refl | exact Sb.nil | (repeat (first | exact Sb.nil | exact Sb.refl | exact Sb.app0 | apply Sb.keep | apply Sb.keepApp | apply Sb.cons | apply Sb.app))) (rd_build rfl rfl rfl) rfl (by kernel_rfl) ?_
      refine xm_one 8 (m' := 511) rfl (by kernel_rfl) rfl (by kernel_rfl) (ef_storeB [_] _ rfl rfl (by first | rfl | assumption) rfl rfl rfl ?_)
      refine ⟨(by first | exact Sb.refl | exact Sb.nil | (repeat (first | exact Sb.nil | exact Sb.refl | exact Sb.app0 | apply Sb.keep | apply Sb.keepApp | apply Sb.cons | apply Sb.app))), ?_⟩
      refine xm_take 9 (m' := 1023) rfl (by kernel_rfl) (by first | exact Sb.refl | exact Sb.nil | (repeat (first | exact Sb.nil | exact Sb.refl | exact Sb.app0 | apply Sb.keep | apply Sb.keepApp | apply Sb.cons | apply Sb.app))) (rd_assign rfl) rfl (by kernel_rfl) ?_
      refine xm_done (by kernel_rfl) ?_
      refine xq_seq ?_
      refine xc_ret ?_
    have hbl : ([ss, nt / 4294967296, nt % 4294967296, rt, pk, oc].flatMap be4 ++ xs.flatMap bkL).length = 4 * 6 + out.length := by rw [List.length_append, flat4_len, ho]; rfl
    all_goals refine xq_retB2 (.inl rfl) Try.results45 rfl rfl Kn.o1 rfl ((List.Sublist.append_left (List.sublist_append_right lb L) l3).trans ((List.sublist_cons_self _ _).trans ((List.sublist_cons_self _ _).trans (List.sublist_cons_self _ _)))) ⟨⟨⟨xs.length, 200, [ss, nt / 4294967296, nt % 4294967296, rt, pk, oc].flatMap be4 ++ xs.flatMap bkL, 0⟩, s3, k3, l3⟩, ?_, rfl, ?_, rfl⟩
    all_goals first | (unfold Pb.enc Pc.enc; dsimp only; rw [hbl]; rfl) | (unfold Pb.Ok; dsimp only; rw [hbl, ints_app, ← ho]; exact hO3)
end Go.Proofs.Ytogilblilljpmaa.X
/-
  Words of my own for walks, twenty-second part: a text's bytes that are appended. No condition; generic over the program.
-/
namespace Go.Proofs.Ytogilblilljpmaa.X
open Go Go.RowKit
set_option linter.unusedVariables false
set_option linter.unusedSimpArgs false
theorem strCells_sbs (s : ByteArray) : Lib.strCells s = ints .u8 (sbs s) := by simp [Lib.strCells, ints, sbs]
section
variable {P : Program} {W : World} {n : Nat} {L : List Blk} {E : List (Nat × Value)} {d : Option Nat} {t : TypeId} {pos : String} {after : Array Edge} {g : Option (Nat × Bool)} {K : Value → List Blk → Prop}
/-- A text's bytes are appended to an owned slice of bytes. -/
theorem ef_appendT (A R l : List Blk) {T T2 e bt : Nat} {z v0 : Value} {x y : Operand} {v : Value} {m : Nat} {s : ByteArray} {xs : List Value} [hT : Sl P T e] [hT2 : St P T2] [hI : Inf P e z 1 bt]
    (hx : ev E x = some v) (hy : ev E y = some (.string s)) (hO : SlO 1 e v m xs l) (hL : L = A ++ (l ++ R)) (hzc : z.cells = #[v0])
    (hfit : (m + s.size) * bt ≤ 140737488355328) (hsm : m + s.size ≤ 9223372036854775807) (hK : ∀ q c' l', SlO 1 e (.slice q (m + s.size) c') (m + s.size) (xs ++ ints .u8 (sbs s)) l' → m + s.size ≤ c' → K (.slice q (m + s.size) c') (A ++ (l' ++ R))) :
    EF P W n L E ⟨d, .call ⟨.builtin .append, #[x, y], #[T, T2]⟩, t, pos, after, g⟩ K := by
  rw [← strCells_sbs] at hK
  obtain ⟨p0, c0, rfl, hO, hmc0⟩ := hO.opn
  refine ⟨fun a w ha hw => ?_⟩
  have hrun : (execOp a.eval ⟨d, .call ⟨.builtin .append, #[x, y], #[T, T2]⟩, t, pos, after, g⟩).run P w = ((Builtin.append_ #[T, T2] t #[.slice p0 m c0, .string s]).run P w).andThen fun v w => .ok (.value v) w := by
    simp [execOp, resolve, invoke, builtin, ha.eval hx, ha.eval hy]
  rw [hrun]
  obtain ⟨i, hi1, hi2, hi3, hi4, hzz⟩ := hI.h
  subst hi4
  have hkb : s.size * i.bytes ≤ 281474976710656 := by
    have : s.size * i.bytes ≤ (m + s.size) * i.bytes := Nat.mul_le_mul_right _ (by omega)
    omega
  have hsl := Lib.strCells_length s
  by_cases hk0 : s.size = 0
  · have hn : Lib.strCells s = [] := List.eq_nil_of_length_eq_zero (by rw [hsl]; exact hk0)
    have hr : (Builtin.append_ #[T, T2] t #[.slice p0 m c0, .string s]).run P w = .ok (.slice p0 m c0) w := by
      have hf := Lib.run_firstCells_string (P := P) w 1 s
      rw [hk0] at hf
      cases p0 <;> simp [Builtin.append_, run_underlying hT.h, run_underlying hT2.h, sizeOf, typeInfo, hi1, hi3, Builtin.lenOf, hk0, hf, hmc0, hn, storeCells]
    rw [hr]
    refine ⟨_, hw, ?_⟩
    rw [hL]
    have := hK p0 c0 l (by rw [hn, hk0]; simpa using hO) (by omega)
    rwa [hk0] at this
  · rcases hO with ⟨he, rfl, rfl, rfl⟩ | ⟨b, cs, cap, he, rfl, hmc, hcs, htk⟩
    · simp only [Value.slice.injEq] at he
      obtain ⟨rfl, _, rfl⟩ := he
      have hr := run_append_nil_string (P := P) w T T2 t e i z hT.h hT2.h hi1 hi2 s (by omega) (by omega) hkb
      have e1 : (s.data.map fun b => Value.int .u8 b.toNat) = (Lib.strCells s).toArray := by
        apply Array.ext'
        simp [Lib.strCells]
      rw [e1] at hr
      rw [hr]
      have hge := grownCap_ge w s.size 0 e
      have hcap : 0 + s.size ≤ grownCap w s.size 0 e := by omega
      have hK' := hK (some ⟨w.heap.size, 0, none⟩) (grownCap w s.size 0 e) [(w.heap.size, .cells ((Lib.strCells s).toArray ++ Builtin.zeroCells z.cells (grownCap w s.size 0 e - s.size)) e (0, 0))] (.inr ⟨w.heap.size, _, grownCap w s.size 0 e, rfl, rfl, hcap, ?_, ?_⟩) hcap
      · refine ⟨_, (hw.drew.alloc _).perm ?_, by rw [Nat.zero_add] at hK'; exact hK'⟩
        rw [hL]
        simp only [List.nil_append, List.singleton_append]
        exact List.perm_middle.symm
      · simp only [Array.size_append, size_zeroCells, hzz, Nat.mul_one, List.size_toArray, hsl]
        omega
      · rw [hzc, zeros_one]
        simp only [Array.toList_append, Nat.zero_add, Nat.mul_one, List.nil_append]
        rw [← hsl]
        exact List.take_left
    · simp only [Value.slice.injEq] at he
      obtain ⟨rfl, _, rfl⟩ := he
      rw [Nat.mul_one] at hcs htk
      have hw2 := hw
      rw [hL] at hw2
      have hlx : xs.length = m := by rw [← htk, List.length_take, Array.length_toList]; omega
      by_cases hroom : m + s.size ≤ c0
      · have hr := Lib.run_append_room_string (P := P) w T T2 t e i hT.h hT2.h hi1 hi3 b m c0 cs hw2.mid s hroom (by omega)
        rw [hr]
        have hK' := hK (some ⟨b, 0, none⟩) c0 [(b, .cells (cs.toList.take m ++ Lib.strCells s ++ cs.toList.drop (m + s.size)).toArray e (0, 0))] (.inr ⟨b, _, c0, rfl, rfl, hroom, ?_, ?_⟩) hroom
        · exact ⟨_, hw2.turnAt rfl rfl rfl (setRow_heap w b cs _ e (0, 0) hw2.mid) (fun q hq => setRow_other w b q _ hq), hK'⟩
        · simp only [List.size_toArray, List.length_append, List.length_take, List.length_drop, hsl, Array.length_toList, Nat.mul_one]
          omega
        · rw [htk, Nat.mul_one]
          have : m + s.size = (xs ++ Lib.strCells s).length := by simp [hlx, hsl]
          rw [this]
          exact List.take_left
      · have holds : ∀ j u, xs[j]? = some u → w.cell? ((⟨b, 0, none⟩ : Addr).add j) = some u := fun j u hj => by
          rw [add_zero']
          rw [← htk, List.getElem?_take] at hj
          split at hj
          · simp [World.cell?, hw2.mid]; simpa using hj
          · cases hj
        have hr := Lib.run_append_grow_string (P := P) w T T2 t e i z hT.h hT2.h hi1 hi2 ⟨b, 0, none⟩ m c0 xs (by rw [hi3]; omega) holds s (by omega) (by omega) (growslice_fits (by omega) hfit)
        rw [hr]
        have hge := grownCap_ge w (m + s.size) c0 e
        have hK' := hK (some ⟨w.heap.size, 0, none⟩) (grownCap w (m + s.size) c0 e) [(w.heap.size, .cells (xs.toArray ++ (Lib.strCells s).toArray ++ Builtin.zeroCells z.cells (grownCap w (m + s.size) c0 e - (m + s.size))) e (0, 0))] (.inr ⟨w.heap.size, _, grownCap w (m + s.size) c0 e, rfl, rfl, hge, ?_, ?_⟩) hge
        · refine ⟨_, ((hw2.drew.alloc _).sub (L' := (w.heap.size, .cells (xs.toArray ++ (Lib.strCells s).toArray ++ Builtin.zeroCells z.cells (grownCap w (m + s.size) c0 e - (m + s.size))) e (0, 0)) :: (A ++ R)) ?_).perm ?_, hK'⟩
          · refine List.Sublist.cons_cons _ ?_
            exact (List.Sublist.refl A).append (by simp)
          · simp only [List.singleton_append]
            exact List.perm_middle.symm
        · simp only [Array.size_append, List.size_toArray, size_zeroCells, hzz, hlx, hsl, Nat.mul_one]
          omega
        · rw [Nat.mul_one]
          have : m + s.size = (xs ++ Lib.strCells s).length := by simp [hlx, hsl]
          rw [this]
          simp only [Array.toList_append]
          exact List.take_left
end
end Go.Proofs.Ytogilblilljpmaa.X
/-
  Chunks, and who goes, are put: walks of my own.
-/
namespace Go.Proofs.Ytogilblilljpmaa.X
open Go Go.RowKit
set_option linter.unusedVariables false
set_option linter.unusedSimpArgs false
structure Ck where
  ss : Int
  nm : ByteArray
def Ck.enc (x : Ck) : List Value := [.int .u32 x.ss, .string x.nm]
theorem Ck.len (x : Ck) : x.enc.length = 2 := rfl
theorem Ck.one (x : Ck) : x.enc.all (·.oneCell') = true := rfl
def fil (b : List Int) : List Int := b ++ List.replicate ((4 - b.length % 4) % 4) 0
theorem fil_len (b : List Int) : (fil b).length = b.length + (4 - b.length % 4) % 4 := by unfold fil; simp
def nameL (nm : ByteArray) : List Int := if nm.size = 0 then [] else [1, (nm.size : Int)] ++ sbs nm
def chA (acc : List Int) (x : Ck) : List Int := fil (acc ++ [x.ss].flatMap be4 ++ nameL x.nm ++ [0])
def chunksL (l : List Ck) : List Int := l.foldl chA []
def putCh (l : List Ck) : Pc × Int := if l.any (fun x => decide (255 < x.nm.size)) then (.zero, 2) else if 31 < l.length then (.zero, 2) else (⟨l.length, 202, chunksL l, 0⟩, 0)
theorem nameL_len (nm : ByteArray) (h : nm.size ≤ 255) : (nameL nm).length ≤ 257 := by
  unfold nameL
  split
  · exact Nat.zero_le _
  · rw [List.length_append, sbs_len]; simp; omega
theorem chA_len (acc : List Int) (x : Ck) (h : x.nm.size ≤ 255) : (chA acc x).length ≤ acc.length + 300 := by
  unfold chA
  rw [fil_len]
  have := nameL_len x.nm h
  simp only [List.length_append, flat4_len, List.length_singleton] at *
  omega
theorem nm_size0 {nm : ByteArray} : nm.size = 0 ↔ nm = ⟨#[]⟩ := by
  constructor
  · intro h
    cases nm with
    | mk d =>
      have : d.size = 0 := h
      rw [Array.eq_empty_of_size_eq_zero this]
  · rintro rfl; rfl
theorem perm_in3' {a b c : Blk} (l l' R : List Blk) : (l ++ (a :: b :: c :: (l' ++ R))).Perm (a :: b :: c :: (l' ++ (l ++ R))) := (by classical exact List.perm_iff_count.2 fun a => by simp only [List.append_eq, List.count_append, List.count_cons, List.count_nil, List.cons_append, List.nil_append, List.flatMap_append, List.flatMap_cons, List.flatMap_nil, List.append_nil]; omega)
structure ChS where
  ys : List Int
  s : Option Addr
  k : Nat
  l : List Blk
set_option maxHeartbeats 8000000 in
theorem xf_putChunks {W : World} {L : List Blk} (p : Option Addr) (n c : Nat) (xs : List Ck) (hx : xs.length = n) (hr : Rs W L p (xs.flatMap Ck.enc)) (hg : ∀ x, x ∈ xs → U4 x.ss) (hn : n ≤ 1000000) :
    XF Try.prog W 46 #[.slice p n c] L (PuM L (putCh xs)) := by
  refine xf_enter (args := [_]) Try.func46 rfl Try.ntmps46 rfl ?_
  focus
    refine xc_seq ?_
    refine xc_region ?_
    refine xo_ef rfl (ef_alloc fun r2 => ?_)
    refine xo_rd (rd_assign rfl) rfl ?_
    refine xo_nil ?_
    refine xq_seq ?_
    refine xc_seq ?_
    refine xc_region ?_
    refine xo_rd (rd_assign rfl) rfl ?_
    refine xo_nil ?_
    refine xq_seq ?_
    refine xc_seq ?_
    refine xc_seq ?_
    refine xc_region ?_
    refine xo_rd (rd_move rfl) rfl ?_
    refine xo_rd (rd_len rfl) rfl ?_
    refine xo_rd (rd_move rfl) rfl ?_
    refine xo_nil ?_
    refine xq_seq ?_
    refine xc_block ?_
  refine xc_loopI (ι := LgS) (fun z => z.i ≤ n ∧ (∀ j (h : j < xs.length), j < z.i → xs[j].nm.size ≤ 255) ∧ ((xs.take z.i).foldl chA []).length ≤ 300 * z.i ∧ SlO 1 5 (.slice z.s ((xs.take z.i).foldl chA []).length z.k) ((xs.take z.i).foldl chA []).length (ints .u8 ((xs.take z.i).foldl chA [])) z.l) (fun z => n - z.i) (fun z => (r2, .cells #[.int .u8 0, .int .u8 0, .slice none 0 0, .int .u8 0] 81 (0, 0)) :: (z.l ++ L)) (fun z => [(0, .slice p n c), (2, .pointer (some ⟨r2, 0, none⟩)), (4, .slice z.s ((xs.take z.i).foldl chA []).length z.k), (7, .slice p n c), (8, .int .i64 n), (9, .int .i64 z.i)]) ⟨0, none, 0, []⟩ ⟨Nat.zero_le _, (fun j h hj => absurd hj (Nat.not_lt_zero _)), Nat.zero_le _, SlO.nil⟩ rfl (by repeat (first | exact keep_nil | refine keep_cons rfl ?_)) ?_
  rintro ⟨i, s, k, l⟩ ⟨hi, hok, hle, hO⟩
  dsimp only at hi hok hle hO ⊢
  by_cases hin : i < n
  · obtain ⟨b, o, hp, hc⟩ := hr.rows Ck.len (by decide) (by omega)
    subst hp
    have hci := hc i (by omega)
    have hgx := hg xs[i] (List.getElem_mem _)
    have e1 : (xs.take (i + 1)).foldl chA [] = chA ((xs.take i).foldl chA []) xs[i] := by rw [List.take_add_one, List.getElem?_eq_getElem (by omega), List.foldl_append]; rfl
    have hbad : 255 < xs[i].nm.size → putCh xs = (.zero, 2) := fun h => by
      unfold putCh
      rw [if_pos]
      exact List.any_eq_true.2 ⟨xs[i], List.getElem_mem _, decide_eq_true h⟩
    have hok' : xs[i].nm.size ≤ 255 → ∀ j (h : j < xs.length), j < i + 1 → xs[j].nm.size ≤ 255 := fun h j hj hji => by
      by_cases hji2 : j < i
      · exact hok j hj hji2
      · obtain rfl : j = i := by omega
        exact h
    have hcl := chA_len ((xs.take i).foldl chA []) xs[i]
    generalize (xs.take i).foldl chA [] = acc at *
    generalize xs[i] = x at *
    have hcI : ∀ L', (∀ z, z ∈ L → z ∈ L') → ∀ (j : Nat) (u : Value), x.enc[j]? = some u → Cl W L' b (o + (i : Int).toNat * 2 + j) u := fun L' h j u hj => (hci j u hj).mono h
    obtain ⟨ss, nm⟩ := x
    dsimp only [U4] at hgx hbad hok' hcl
    have hu : ∀ z, z ∈ [ss] → U4 z := fun z hz => by rw [List.mem_singleton.1 hz]; exact hgx
    by_cases hf : 255 < nm.size
    · rw [hbad hf]
      focus
        refine xc_seq ?_
        refine xc_region ?_
        refine xo_rd (rd_lss rfl rfl) rfl ?_
        refine xo_nil ?_
        refine xq_seq ?_
        refine xc_seq ?_
        refine xc_dec rfl (fun hq1 => ?_) (fun hq1 => (by exfalso; omega))
        refine xc_skip ?_
        refine xq_seq ?_
        refine xc_seq ?_
        refine xc_block ?_
        refine xc_seq ?_
        refine xc_region ?_
        refine xo_rd (rd_indexAddr rfl rfl (by omega) (by omega)) rfl ?_
        refine xo_rd (rd_loadA (vs := [Value.int .u32 ss, .string nm]) rfl rfl (hcI _ (by intro z hz; simp [hz]))) rfl ?_
        refine xo_ef rfl (ef_alloc fun r6 => ?_)
        refine xo_ef rfl (ef_storeB [] _ rfl rfl (by first | rfl | assumption) rfl rfl rfl ?_)
        refine xo_nil ?_
        refine xq_seq ?_
        refine xc_seq ?_
        refine xc_seq ?_
        refine xc_region ?_
        refine xo_rd (rd_fieldAddr rfl) rfl ?_
        refine xo_rd (rd_load1 rfl (Cl.o0 rfl)) rfl ?_
        refine xo_rd (rd_lenStr rfl) rfl ?_
        refine xo_rd (rd_gtr rfl rfl) rfl ?_
        refine xo_nil ?_
        refine xq_seq ?_
        refine xc_dec rfl (fun hq2 => ?_) (fun hq2 => (by exfalso; omega))
        refine xc_seq ?_
        refine xc_region ?_
        refine xo_rd (rd_build rfl rfl rfl) rfl ?_
        refine xo_ef rfl (ef_storeB [_] _ rfl rfl (by first | rfl | assumption) rfl rfl rfl ?_)
        refine xo_rd (rd_assign rfl) rfl ?_
        refine xo_nil ?_
        refine xq_seq ?_
        refine xc_ret ?_
        refine xq_then_ret ?_
        refine xq_block_ret ?_
        refine xq_then_ret ?_
        refine xq_then_ret ?_
        refine xq_block_ret ?_
        refine xq_then_ret ?_
      exact xq_retB2 (.inl rfl) Try.results46 rfl rfl Kn.o1 rfl ((List.sublist_append_right l L).trans ((List.sublist_cons_self _ _).trans (List.sublist_cons_self _ _))) (PuM.err 2)
    · have hcl := hcl (by omega)
      focus
        refine xc_seq ?_
        refine xc_region ?_
        refine xo_rd (rd_lss rfl rfl) rfl ?_
        refine xo_nil ?_
        refine xq_seq ?_
        refine xc_seq ?_
        refine xc_dec rfl (fun hq1 => ?_) (fun hq1 => (by exfalso; omega))
        refine xc_skip ?_
        refine xq_seq ?_
        refine xc_seq ?_
        refine xc_block ?_
        refine xc_seq ?_
        refine xc_region ?_
        refine xo_rd (rd_indexAddr rfl rfl (by omega) (by omega)) rfl ?_
        refine xo_rd (rd_loadA (vs := [Value.int .u32 ss, .string nm]) rfl rfl (hcI _ (by intro z hz; simp [hz]))) rfl ?_
        refine xo_ef rfl (ef_alloc fun r6 => ?_)
        refine xo_ef rfl (ef_storeB [] _ rfl rfl (by first | rfl | assumption) rfl rfl rfl ?_)
        refine xo_nil ?_
        refine xq_seq ?_
        refine xc_seq ?_
        refine xc_seq ?_
        refine xc_region ?_
        refine xo_rd (rd_fieldAddr rfl) rfl ?_
        refine xo_rd (rd_load1 rfl (Cl.o0 rfl)) rfl ?_
        refine xo_rd (rd_lenStr rfl) rfl ?_
        refine xo_rd (rd_gtr rfl rfl) rfl ?_
        refine xo_nil ?_
        refine xq_seq ?_
        refine xc_dec rfl (fun hq2 => (by exfalso; omega)) (fun hq2 => ?_)
        refine xc_skip ?_
        refine xq_seq ?_
        refine xc_seq ?_
        refine xc_region ?_
        refine xo_rd (rd_move rfl) rfl ?_
        refine xo_rd (rd_fieldAddr rfl) rfl ?_
        refine xo_rd (rd_load1 rfl (Cl.o0 rfl)) rfl ?_
        refine xo_ef rfl (ef_slice1 rfl rfl rfl fun r21 => ?_)
        refine xo_ef rfl (ef_call rfl (XF.mono (xf_long (some ⟨r21, 0, none⟩) 1 1 [ss] rfl (Rs.fresh (List.Mem.head _)) hu (by decide)) ?_))
        rintro v L' ⟨s2, k2, l2, rfl, hO2, rfl⟩
        refine xo_perm (perm_in3' l2 l L) ?_
        refine xo_ef rfl (ef_appendS [_, _, _] (l2 ++ L) l (news := ints .u8 ([ss].flatMap be4)) rfl rfl hO rfl (hO2.rs (by intro z hz; simp [hz])) rfl (ints_one _ _) (by decide) (by omega) (by omega) fun s3 k3 l3 hO3 hk3 => ?_)
        refine xo_rd (rd_assign rfl) rfl ?_
        refine xo_nil ?_
        refine xq_seq ?_
      rw [← ints_app] at hO3
      refine xc_join (ι := ChS) (fun z => z.ys = acc ++ [ss].flatMap be4 ++ nameL nm ∧ SlO 1 5 (.slice z.s z.ys.length z.k) z.ys.length (ints .u8 z.ys) z.l) (fun z => (r2, .cells #[.int .u8 0, .int .u8 0, .slice none 0 0, .int .u8 0] 81 (0, 0)) :: (z.l ++ L)) (fun z => [(0, .slice (some ⟨b, o, none⟩) n c), (2, .pointer (some ⟨r2, 0, none⟩)), (4, .slice z.s z.ys.length z.k), (7, .slice (some ⟨b, o, none⟩) n c), (8, .int .i64 n), (9, .int .i64 i)]) ?_ ?_
      · have hl4 : (acc ++ [ss].flatMap be4).length = acc.length + 4 * 1 := by rw [List.length_append, flat4_len]; rfl
        by_cases h0 : nm.size = 0
        · have hnm := nm_size0.1 h0
          focus
            refine xc_seq ?_
            refine xc_region ?_
            refine xo_rd (rd_fieldAddr rfl) rfl ?_
            refine xo_rd (rd_load1 rfl (Cl.o1 rfl)) rfl ?_
            refine xo_rd (rd_cast (v' := .bool false) (rd_nes rfl rfl) (congrArg Value.bool (show (!decide (nm = ⟨#[]⟩)) = false from by rw [decide_eq_true hnm]; rfl))) rfl ?_
            refine xo_nil ?_
            refine xq_seq ?_
            refine xc_condf rfl ?_
            refine xc_skip ?_
          refine xq_sub (L' := (r2, .cells #[.int .u8 0, .int .u8 0, .slice none 0 0, .int .u8 0] 81 (0, 0)) :: (l3 ++ L)) (.cons _ (.cons _ (.cons_cons _ (List.Sublist.append_left (List.sublist_append_right l2 L) l3)))) (xq_joined (⟨acc ++ [ss].flatMap be4, s3, k3, l3⟩ : ChS) ⟨?_, by dsimp only; rw [hl4]; exact hO3⟩ rfl ?_)
          · dsimp only; unfold nameL; rw [if_pos h0, List.append_nil]
          · dsimp only; rw [hl4]; exact (by repeat (first | exact keep_nil | refine keep_cons rfl ?_))
        · have hnm : ¬ nm = ⟨#[]⟩ := fun h => h0 (nm_size0.2 h)
          have hl5 : (acc ++ [ss].flatMap be4 ++ nameL nm).length = acc.length + 4 * 1 + 2 + nm.size := by
            unfold nameL
            rw [if_neg h0, List.length_append, hl4, List.length_append, sbs_len]
            simp; omega
          have hin5 : ints .u8 (acc ++ [ss].flatMap be4 ++ nameL nm) = ints .u8 (acc ++ [ss].flatMap be4) ++ ints .u8 [1, (nm.size : Int)] ++ ints .u8 (sbs nm) := by
            unfold nameL
            rw [if_neg h0, ints_app, ints_app _ [1, (nm.size : Int)], List.append_assoc]
          focus
            refine xc_seq ?_
            refine xc_region ?_
            refine xo_rd (rd_fieldAddr rfl) rfl ?_
            refine xo_rd (rd_load1 rfl (Cl.o1 rfl)) rfl ?_
            refine xo_rd (rd_cast (v' := .bool true) (rd_nes rfl rfl) (congrArg Value.bool (show (!decide (nm = ⟨#[]⟩)) = true from by rw [decide_eq_false hnm]; rfl))) rfl ?_
            refine xo_nil ?_
            refine xq_seq ?_
            refine xc_condt rfl ?_
            refine xc_drawM [0, 0, 2, 4, 8, 16, 33, 0, 128, 320, 1023] [0, 0, 2, 4, 8, 16, 33, 0, 128, 320, 1023] ([(r6, .cells #[.int .u32 ss, .string nm] 90 (0, 0))]) (by kernel_rfl) (by kernel_rfl) (by kernel_rfl) ?_
            refine xm_take 0 (m' := 1) rfl (by kernel_rfl) (by first | exact Sb.refl | exact Sb.nil | (repeat (first | exact Sb.nil | exact Sb.refl | exact Sb.app0 | apply Sb.keep | apply Sb.keepApp | apply Sb.cons | apply Sb.app))) (rd_move rfl) rfl (by kernel_rfl) ?_
            refine xm_take 1 (m' := 3) rfl (by kernel_rfl) (by first | exact Sb.refl | exact Sb.nil | (repeat (first | exact Sb.nil | exact Sb.refl | exact Sb.app0 | apply Sb.keep | apply Sb.keepApp | apply Sb.cons | apply Sb.app))) (rd_fieldAddr rfl) rfl (by kernel_rfl) ?_
            refine xm_take 2 (m' := 7) rfl (by kernel_rfl) (by first | exact Sb.refl | exact Sb.nil | (repeat (first | exact Sb.nil | exact Sb.refl | exact Sb.app0 | apply Sb.keep | apply Sb.keepApp | apply Sb.cons | apply Sb.app))) (rd_load1 rfl (Cl.o0 rfl)) rfl (by kernel_rfl) ?_
            refine xm_take 3 (m' := 15) rfl (by kernel_rfl) (by first | exact Sb.refl | exact Sb.nil | (repeat (first | exact Sb.nil | exact Sb.refl | exact Sb.app0 | apply Sb.keep | apply Sb.keepApp | apply Sb.cons | apply Sb.app))) (rd_lenStr rfl) rfl (by kernel_rfl) ?_
            refine xm_take 4 (m' := 31) rfl (by kernel_rfl) (by first | exact Sb.refl | exact Sb.nil | (repeat (first | exact Sb.nil | exact Sb.refl | exact Sb.app0 | apply Sb.keep | apply Sb.keepApp | apply Sb.cons | apply Sb.app))) (rd_convn rfl (by omega) (by omega)) rfl (by kernel_rfl) ?_
            refine xm_take 7 (m' := 159) rfl (by kernel_rfl) (by first | exact Sb.refl | exact Sb.nil | (repeat (first | exact Sb.nil | exact Sb.refl | exact Sb.app0 | apply Sb.keep | apply Sb.keepApp | apply Sb.cons | apply Sb.app))) (rd_fieldAddr rfl) rfl (by kernel_rfl) ?_
            refine xm_take 8 (m' := 415) rfl (by kernel_rfl) (by first | exact Sb.refl | exact Sb.nil | (repeat (first | exact Sb.nil | exact Sb.refl | exact Sb.app0 | apply Sb.keep | apply Sb.keepApp | apply Sb.cons | apply Sb.app))) (rd_load1 rfl (Cl.o0 rfl)) rfl (by kernel_rfl) ?_
            refine xm_one 5 (m' := 447) rfl (by kernel_rfl) rfl (by kernel_rfl) (ef_buildL (T := 49) (len := 2) (s := 1) (cells := (ints .u8 [1, (nm.size : Int)]).toArray) rfl (by decide) (by decide) (by kernel_rfl) fun r32 => ?_)
            refine ⟨(by first | exact Sb.refl | exact Sb.nil | (repeat (first | exact Sb.nil | exact Sb.refl | exact Sb.app0 | apply Sb.keep | apply Sb.keepApp | apply Sb.cons | apply Sb.app))), ?_⟩
            refine xm_one 6 (m' := 511) rfl (by kernel_rfl) rfl (by kernel_rfl) (ef_appendS [_, _, _, _] (l2 ++ L) l3 (news := ints .u8 [1, (nm.size : Int)]) rfl rfl hO3 rfl (Rs.fresh (List.Mem.head _)) rfl rfl (by decide) (by omega) (by omega) fun s4 k4 l4 hO4 hk4 => ?_)
            refine ⟨(by first | exact Sb.refl | exact Sb.nil | (repeat (first | exact Sb.nil | exact Sb.refl | exact Sb.app0 | apply Sb.keep | apply Sb.keepApp | apply Sb.cons | apply Sb.app))), ?_⟩
            refine xm_one 9 (m' := 1023) rfl (by kernel_rfl) rfl (by kernel_rfl) (ef_appendT [_, _, _, _] (l2 ++ L) l4 rfl rfl hO4 rfl rfl (by omega) (by omega) fun s5 k5 l5 hO5 hk5 => ?_)
            refine ⟨(by first | exact Sb.refl | exact Sb.nil | (repeat (first | exact Sb.nil | exact Sb.refl | exact Sb.app0 | apply Sb.keep | apply Sb.keepApp | apply Sb.cons | apply Sb.app))), ?_⟩
            refine xm_take 10 (m' := 2047) rfl (by kernel_rfl) (by first | exact Sb.refl | exact Sb.nil | (repeat (first | exact Sb.nil | exact Sb.refl | exact Sb.app0 | apply Sb.keep | apply Sb.keepApp | apply Sb.cons | apply Sb.app))) (rd_assign rfl) rfl (by kernel_rfl) ?_
            refine xm_done (by kernel_rfl) ?_
          all_goals refine xq_sub (L' := (r2, .cells #[.int .u8 0, .int .u8 0, .slice none 0 0, .int .u8 0] 81 (0, 0)) :: (l5 ++ L)) (.cons _ (.cons _ (.cons _ (.cons_cons _ (List.Sublist.append_left (List.sublist_append_right l2 L) l5))))) (xq_joined (⟨acc ++ [ss].flatMap be4 ++ nameL nm, s5, k5, l5⟩ : ChS) ⟨rfl, by dsimp only; rw [hl5, hin5]; exact hO5⟩ rfl ?_)
          all_goals (dsimp only; rw [hl5]; exact (by repeat (first | exact keep_nil | refine keep_cons rfl ?_)))
      · rintro ⟨ys, s5, k5, l5⟩ ⟨hys, hO5⟩
        dsimp only at hys hO5 ⊢
        have hyl : ys.length ≤ acc.length + 270 := by
          have := nameL_len nm (by omega)
          rw [hys]
          simp only [List.length_append, flat4_len, List.length_singleton]
          omega
        have hcA : chA acc ⟨ss, nm⟩ = fil (ys ++ [0]) := by rw [hys]; rfl
        focus
          refine xc_region ?_
          refine xo_rd (rd_move rfl) rfl ?_
          refine xo_ef rfl (ef_slice1 rfl rfl rfl fun r38 => ?_)
          refine xo_ef rfl (ef_appendS [_, _] L l5 (news := [.int .u8 0]) rfl rfl hO5 rfl (Rs.fresh (List.Mem.head _)) rfl rfl (by decide) (by omega) (by omega) fun s6 k6 l6 hO6 hk6 => ?_)
          refine xo_ef rfl (ef_call rfl (XF.mono (XF.seg [_, _] l6 L (xf_filled _ (ys.length + 1) (ys ++ [0]) l6 (by rw [ints_snoc]; exact hO6) (by omega))) ?_))
          rintro v L' ⟨s7, k7, l7, rfl, hO7, rfl⟩
          refine xo_seg [_, _] l7 L ?_
          refine xo_rd (rd_assign rfl) rfl ?_
          refine xo_nil ?_
          refine xq_block ?_
          refine xq_seq ?_
          refine xc_region ?_
          refine xo_rd (rd_addn rfl rfl (by omega) (by omega)) rfl ?_
          refine xo_rd (rd_move rfl) rfl ?_
          refine xo_nil ?_
        have hl7 : (chA acc ⟨ss, nm⟩).length = ys.length + 1 + (4 - (ys.length + 1) % 4) % 4 := by rw [hcA, fil_len]; simp
        refine xq_tail (xq_roundI (⟨i + 1, s7, k7, l7⟩ : LgS) ⟨by dsimp only; omega, hok' (by omega), by dsimp only; rw [e1]; omega, ?_⟩ (by dsimp only; omega) rfl ?_)
        · dsimp only
          rw [e1, hl7, hcA]
          unfold fil
          rw [show (ys ++ [(0 : Int)]).length = ys.length + 1 from by simp]
          exact hO7
        · dsimp only
          rw [e1, hl7]
          exact (by repeat (first | exact keep_nil | refine keep_cons rfl ?_))
  · have hin' : i = n := by omega
    subst hin'
    rw [List.take_of_length_le (by omega)] at hO hle
    have hnone : ¬ xs.any (fun x => decide (255 < x.nm.size)) = true := fun h => by
      obtain ⟨x, hx, hd⟩ := List.any_eq_true.1 h
      obtain ⟨j, hj, rfl⟩ := List.getElem_of_mem hx
      have := hok j hj (by omega)
      have := of_decide_eq_true hd
      omega
    by_cases h31 : 31 < xs.length
    · rw [show putCh xs = (.zero, 2) from by unfold putCh; rw [if_neg hnone, if_pos h31]]
      focus
        refine xc_seq ?_
        refine xc_region ?_
        refine xo_rd (rd_lss rfl rfl) rfl ?_
        refine xo_nil ?_
        refine xq_seq ?_
        refine xc_seq ?_
        refine xc_dec rfl (fun hq1 => (by exfalso; omega)) (fun hq1 => ?_)
        refine xc_exit ?_
        refine xq_then_exit ?_
        refine xq_then_exit ?_
        refine xq_block_hit ?_
        refine xq_seq ?_
        refine xc_seq ?_
        refine xc_seq ?_
        refine xc_region ?_
        refine xo_rd (rd_move rfl) rfl ?_
        refine xo_rd (rd_len rfl) rfl ?_
        refine xo_rd (rd_gtr rfl rfl) rfl ?_
        refine xo_nil ?_
        refine xq_seq ?_
        refine xc_dec rfl (fun hq2 => ?_) (fun hq2 => (by exfalso; omega))
        refine xc_seq ?_
        refine xc_region ?_
        refine xo_rd (rd_build rfl rfl rfl) rfl ?_
        refine xo_ef rfl (ef_storeB [] _ rfl rfl (by first | rfl | assumption) rfl rfl rfl ?_)
        refine xo_rd (rd_assign rfl) rfl ?_
        refine xo_nil ?_
        refine xq_seq ?_
        refine xc_ret ?_
        refine xq_then_ret ?_
      exact xq_retB2 (.inl rfl) Try.results46 rfl rfl Kn.o0 rfl ((List.sublist_append_right l L).trans (List.sublist_cons_self _ _)) (PuM.err 2)
    · rw [show putCh xs = (⟨xs.length, 202, chunksL xs, 0⟩, 0) from by unfold putCh; rw [if_neg hnone, if_neg h31]]
      rw [List.take_of_length_le (by omega)]
      focus
        refine xc_seq ?_
        refine xc_region ?_
        refine xo_rd (rd_lss rfl rfl) rfl ?_
        refine xo_nil ?_
        refine xq_seq ?_
        refine xc_seq ?_
        refine xc_dec rfl (fun hq1 => (by exfalso; omega)) (fun hq1 => ?_)
        refine xc_exit ?_
        refine xq_then_exit ?_
        refine xq_then_exit ?_
        refine xq_block_hit ?_
        refine xq_seq ?_
        refine xc_seq ?_
        refine xc_seq ?_
        refine xc_region ?_
        refine xo_rd (rd_move rfl) rfl ?_
        refine xo_rd (rd_len rfl) rfl ?_
        refine xo_rd (rd_gtr rfl rfl) rfl ?_
        refine xo_nil ?_
        refine xq_seq ?_
        refine xc_dec rfl (fun hq2 => (by exfalso; omega)) (fun hq2 => ?_)
        refine xc_skip ?_
        refine xq_seq ?_
        refine xc_seq ?_
        refine xc_region ?_
        refine xo_rd (rd_move rfl) rfl ?_
        refine xo_rd (rd_len rfl) rfl ?_
        refine xo_rd (rd_convn rfl (by omega) (by omega)) rfl ?_
        refine xo_rd (rd_move rfl) rfl ?_
        refine xo_rd (rd_build rfl rfl rfl) rfl ?_
        refine xo_ef rfl (ef_storeB [] _ rfl rfl (by first | rfl | assumption) rfl rfl rfl ?_)
        refine xo_rd (rd_assign rfl) rfl ?_
        refine xo_nil ?_
        refine xq_seq ?_
        refine xc_ret ?_
      refine xq_retB2 (.inl rfl) Try.results46 rfl rfl Kn.o0 rfl (List.sublist_cons_self _ _) ⟨⟨⟨xs.length, 202, chunksL xs, 0⟩, s, k, l⟩, ?_, rfl, hO, rfl⟩
      unfold Pb.enc Pc.enc chunksL; dsimp only; rw [hx]; rfl
end Go.Proofs.Ytogilblilljpmaa.X
/-
  The chapter's examples: a walk of my own.
-/
namespace Go.Proofs.Ytogilblilljpmaa.X
open Go Go.RowKit
set_option linter.unusedVariables false
set_option linter.unusedSimpArgs false
theorem xf_join2 {W : World} {L : List Blk} (p : Option Addr) (n c : Nat) (xs : List Pb) (out : List Int) (e : Int) (hz : joinL (xs.map Pb.q) = (out, e)) (hx : xs.length = n) (hA : PbR W L p xs) (hn : n ≤ 1000000) :
    XF Try.prog W 47 #[.slice p n c] L (fun v L' => ∃ s k l, v = .tuple #[.slice s out.length k, .int .i64 e] ∧ SlO 1 5 (.slice s out.length k) out.length (ints .u8 out) l ∧ L' = l ++ L) := by
  have := xf_join p n c xs hx hA hn
  rwa [hz] at this
theorem xf_rjoin2 {W : World} {L : List Blk} (p : Option Addr) (n c : Nat) (xs : List Pb) (out : List Int) (e : Int) (hz : joinL (xs.map Pb.q) = (out, e)) (hx : xs.length = n) (hA : PbR W L p xs) (hn : n ≤ 1000000) :
    XF Try.prog W 53 #[.slice p n c] L (fun v L' => ∃ s k l, v = .tuple #[.slice s out.length k, .int .i64 e] ∧ SlO 1 5 (.slice s out.length k) out.length (ints .u8 out) l ∧ L' = l ++ L) := by
  have := xf_rjoin p n c xs hx hA hn
  rwa [hz] at this
theorem xf_split2 {W : World} {L : List Blk} (p : Option Addr) (m c : Nat) (bs : List Int) (qs : List Pc) (e : Int) (hz : splitL (bs.length + 1) true bs = (qs, e)) (hx : bs.length = m) (hr : Rs W L p (ints .u8 bs)) (hb : ∀ x, x ∈ bs → By x) (hc : m ≤ c) (hm : m ≤ 1000000) :
    XF Try.prog W 33 #[.slice p m c] L (fun v L' => ∃ xs s k l, v = .tuple #[.slice s xs.length k, .int .i64 e] ∧ xs.map Pb.q = qs ∧ (∀ x, x ∈ xs → x.Ok) ∧ (∀ x, x ∈ xs → x.q.Rg) ∧ SlO 4 81 (.slice s xs.length k) xs.length (xs.flatMap Pb.enc) l ∧ L' = l ++ (bls xs ++ L)) := by
  have := xf_split p m c bs hx hr hb hc hm
  rwa [hz] at this
theorem xf_putChunks2 {W : World} {L : List Blk} (p : Option Addr) (n c : Nat) (xs : List Ck) (q : Pc) (e : Int) (hz : putCh xs = (q, e)) (hx : xs.length = n) (hr : Rs W L p (xs.flatMap Ck.enc)) (hg : ∀ x, x ∈ xs → U4 x.ss) (hn : n ≤ 1000000) :
    XF Try.prog W 46 #[.slice p n c] L (fun v L' => ∃ x : Pb, v = .tuple #[.agg x.enc.toArray, .int .i64 e] ∧ x.q = q ∧ x.Ok ∧ L' = x.l ++ L) := by
  have := xf_putChunks p n c xs hx hr hg hn
  rwa [hz] at this
theorem xf_receiver2 {W : World} {L : List Blk} (ss : Int) (hs : U4 ss) (p : Option Addr) (n c : Nat) (xs : List Bk) (q : Pc) (e : Int) (hz : rcvR ss xs = (q, e)) (hx : xs.length = n) (hr : Rs W L p (xs.flatMap Bk.enc)) (hg : ∀ x, x ∈ xs → x.Rg) (hn : n ≤ 1000000) :
    XF Try.prog W 44 #[.agg #[.int .u32 ss, .slice p n c]] L (fun v L' => ∃ x : Pb, v = .tuple #[.agg x.enc.toArray, .int .i64 e] ∧ x.q = q ∧ x.Ok ∧ L' = x.l ++ L) := by
  have := xf_receiver ss hs p n c xs hx hr hg hn
  rwa [hz] at this
def exP : Pc := ⟨0, 201, [0, 0, 0, 1], 0⟩
def exQ : Pc := ⟨1, 202, [0, 0, 0, 2, 1, 2, 97, 98, 0, 0, 0, 0], 0⟩
def exC : Ck := ⟨2, ⟨#[97, 98]⟩⟩
theorem exP_put : rcvR 1 [] = (exP, 0) := by decide +kernel
theorem exQ_put : putCh [exC] = (exQ, 0) := by decide +kernel
theorem exP_rg : exP.Rg := ⟨⟨by decide, by decide⟩, ⟨by decide, by decide⟩, by unfold By; decide, ⟨by decide, by decide⟩⟩
theorem exQ_rg : exQ.Rg := ⟨⟨by decide, by decide⟩, ⟨by decide, by decide⟩, by unfold By; decide, ⟨by decide, by decide⟩⟩
def exB : List Int := [128, 201, 0, 1, 0, 0, 0, 1, 129, 202, 0, 3, 0, 0, 0, 2, 1, 2, 97, 98, 0, 0, 0, 0]
theorem exJ : joinL [exP, exQ] = (exB, 0) := by decide +kernel
end Go.Proofs.Ytogilblilljpmaa.X
/-
  RtcpSplits: a walk of my own.
-/
namespace Go.Proofs.Ytogilblilljpmaa.X
open Go Go.RowKit
set_option linter.unusedVariables false
set_option linter.unusedSimpArgs false
theorem perm_mv2 (a b c d e : List Blk) : (a ++ (b ++ (c ++ (d ++ e)))).Perm (b ++ (c ++ ((a ++ d) ++ e))) := (by classical exact List.perm_iff_count.2 fun a => by simp only [List.append_eq, List.count_append, List.count_cons, List.count_nil, List.cons_append, List.nil_append, List.flatMap_append, List.flatMap_cons, List.flatMap_nil, List.append_nil]; omega)
theorem bls_drop (xs : List Pb) (i : Nat) (h : i < xs.length) : bls (xs.drop i) = xs[i].l ++ bls (xs.drop (i + 1)) := by
  rw [List.drop_eq_getElem_cons h]; rfl
theorem splitL_bd : ∀ (k : Nat) (f : Bool) (b : List Int) (q : Pc), q ∈ (splitL k f b).1 → q.bd.length ≤ b.length
  | 0, _, _, q, h => by cases h
  | k + 1, f, b, q, h => by
    unfold splitL at h
    split at h
    · cases h
    · split at h
      · cases h
      · rename_i h0
        have h0' : (takeP b f).1 = 0 := by simpa using h0
        have hl := takeP_len h0'
        split at h
        · cases h
        · rcases List.mem_cons.1 h with h | h
          · rw [h]
            rcases b with _ | ⟨b0, _ | ⟨b1, _ | ⟨b2, _ | ⟨b3, t⟩⟩⟩⟩
            · exact Nat.zero_le _
            · exact Nat.zero_le _
            · exact Nat.zero_le _
            · exact Nat.zero_le _
            · show (takeT b0 b1 (4 * vl [b2, b3]).toNat t f).2.1.bd.length ≤ t.length + 1 + 1 + 1 + 1
              unfold takeT
              split
              · exact Nat.zero_le _
              · split
                · exact Nat.zero_le _
                · split
                  · exact Nat.zero_le _
                  · split
                    · split
                      · exact Nat.zero_le _
                      · dsimp only; rw [List.length_take]; omega
                    · dsimp only; rw [List.length_take]; omega
          · have := splitL_bd k false _ q h
            omega
theorem splitL_few : ∀ (k : Nat) (f : Bool) (b : List Int), 4 * (splitL k f b).1.length ≤ b.length
  | 0, _, _ => Nat.zero_le _
  | k + 1, f, b => by
    unfold splitL
    split
    · exact Nat.zero_le _
    · split
      · exact Nat.zero_le _
      · rename_i h0
        have h0' : (takeP b f).1 = 0 := by simpa using h0
        have hl := takeP_len h0'
        split
        · exact Nat.zero_le _
        · have := splitL_few k false (takeP b f).2.2
          simp only [List.length_cons]
          omega
end Go.Proofs.Ytogilblilljpmaa.X
/-
  RtcpJoins: a walk of my own.
-/
namespace Go.Proofs.Ytogilblilljpmaa.X
open Go Go.RowKit
set_option linter.unusedVariables false
set_option linter.unusedSimpArgs false
theorem getq {xs ys : List Pb} (h : ys.map Pb.q = xs.map Pb.q) (i : Nat) (hi : i < xs.length) (hj : i < ys.length) : ys[i].q = xs[i].q := by
  have := congrArg (·[i]?) h
  simp only [List.getElem?_map, List.getElem?_eq_getElem hi, List.getElem?_eq_getElem hj, Option.map_some, Option.some.injEq] at this
  exact this
end Go.Proofs.Ytogilblilljpmaa.X
/-
  What is joined is split as it was; what is split is right, and joined as the same bytes, but for the padding's: plain laws, no program.
-/
namespace Go.Proofs.Ytogilblilljpmaa.X
open Go Go.RowKit
set_option linter.unusedVariables false
set_option linter.unusedSimpArgs false
theorem tailL_pos {pd : Int} (h : 0 < pd) : tailL pd = List.replicate (pd - 1).toNat 0 ++ [pd] := by unfold tailL; rw [if_pos h]
theorem tailL_zero {pd : Int} (h : ¬ 0 < pd) : tailL pd = [] := by unfold tailL; rw [if_neg h]
theorem take_put (q : Pc) (rest : List Int) (f : Bool) (hg : q.Rg) (hR : q.Right) (hf : f = true → isFirst q.kd = true) (hp : 0 < q.pd → rest = []) : takeP (putP q ++ rest) f = (0, q, rest) := by
  obtain ⟨ct, kd, bd, pd⟩ := q
  have g1 := hg.ct; have g2 := hg.kd; have g4 := hg.pd
  obtain ⟨e1, e2, e3, e4⟩ := hR
  dsimp only [By] at g1 g2 g4 e1 e2 e3 e4 hf hp
  obtain ⟨w, hw⟩ : ∃ w, w = ((bd.length : Int) + pd) / 4 := ⟨_, rfl⟩
  have hwb : 0 ≤ w ∧ w ≤ 65535 := by omega
  obtain ⟨F, hF⟩ : ∃ F, F = fst6 ⟨ct, kd, bd, pd⟩ := ⟨_, rfl⟩
  have hFv : F / 64 = 2 ∧ F % 32 = ct ∧ (F / 32 % 2 = if 0 < pd then 1 else 0) := by
    have : F = 128 + ct + if 0 < pd then 32 else 0 := hF
    by_cases hp : 0 < pd
    · rw [if_pos hp] at this ⊢; omega
    · rw [if_neg hp] at this ⊢; omega
  have hb : putP ⟨ct, kd, bd, pd⟩ ++ rest = F :: kd :: (w / 256 % 256) :: (w % 256) :: (bd ++ (tailL pd ++ rest)) := by
    rw [hF, hw]
    show [fst6 _, kd] ++ be2 _ ++ (bd ++ tailL pd) ++ rest = _
    rw [List.append_assoc, List.append_assoc, List.append_assoc]
    rfl
  have hv : vl [w / 256 % 256, w % 256] = w := vl_be2 w hwb.1 hwb.2
  rw [hb]
  show takeT F kd (4 * vl [w / 256 % 256, w % 256]).toNat (bd ++ (tailL pd ++ rest)) f = _
  rw [hv]
  obtain ⟨k, hk⟩ : ∃ k : Nat, (4 * w).toNat = k := ⟨_, rfl⟩
  have hkv : (k : Int) = (bd.length : Int) + pd := by omega
  rw [hk]
  have htl := tailL_len pd g4.1
  have hff : ¬ (f = true ∧ isFirst kd = false) := fun h => by rw [hf h.1] at h; cases h.2
  unfold takeT
  rw [if_neg (by omega), if_neg hff, if_neg (by rw [List.length_append, List.length_append]; omega)]
  by_cases hpd : 0 < pd
  · have hr := hp hpd
    subst hr
    rw [List.append_nil]
    rw [if_pos hpd] at hFv
    have hlen : (bd ++ tailL pd).length = k := by rw [List.length_append]; omega
    have hlast : (bd ++ tailL pd).getD (k - 1) 0 = pd := by
      rw [← hlen, tailL_pos hpd, ← List.append_assoc, List.length_append, List.length_singleton, Nat.add_sub_cancel]
      simp [List.getD_eq_getElem?_getD]
    rw [if_pos hFv.2.2, hlast, if_neg (by rw [hlen]; omega), hFv.2.1, show k - pd.toNat = bd.length from by omega, List.take_left]
  · rw [if_neg hpd] at hFv
    have h0 : pd = 0 := by omega
    subst h0
    rw [if_neg (by omega), hFv.2.1, tailL_zero (by decide), List.nil_append, show k = bd.length from by omega, List.take_left, List.drop_left]
theorem putP_ge (q : Pc) (hg : q.Rg) : 4 ≤ (putP q).length := by
  have := putP_len q hg
  have := hg.pd.1
  omega
theorem split_join : ∀ (qs : List Pc) (K : Nat) (f : Bool), qs.length + 1 ≤ K → (∀ q, q ∈ qs → q.Rg) → okJ qs = true → (f = true → qs ≠ [] ∧ isFirst (kind0 qs) = true) → splitL K f (qs.flatMap putP) = (qs, 0)
  | [], 0, f, hK, _, _, _ => absurd hK (by decide)
  | [], K + 1, f, _, _, _, hf => by
    have : f = false := by cases f with
      | false => rfl
      | true => exact absurd rfl (hf rfl).1
    subst this
    rfl
  | q :: r, 0, f, hK, _, _, _ => by simp at hK
  | q :: r, K + 1, f, hK, hg, hok, hf => by
    have hok2 : okJ (q :: r) = (decide q.Right && (decide (q.pd ≤ 0) || r.isEmpty) && okJ r) := rfl
    rw [hok2] at hok
    simp only [Bool.and_eq_true, Bool.or_eq_true, decide_eq_true_eq, List.isEmpty_iff] at hok
    obtain ⟨⟨hR, hlast⟩, hokr⟩ := hok
    have hqg := hg q (List.mem_cons_self ..)
    have htk := take_put q (r.flatMap putP) f hqg hR (fun h => (hf h).2) (fun h => by rcases hlast with h2 | h2; omega; rw [h2]; rfl)
    have ih := split_join r K false (by simp at hK; omega) (fun z hz => hg z (List.mem_cons_of_mem _ hz)) hokr (fun h => by cases h)
    rw [List.flatMap_cons]
    have hne : ¬ (putP q ++ r.flatMap putP = [] ∧ f = false) := fun h => by
      have h1 := (List.append_eq_nil_iff.1 h.1).1
      have h2 := putP_ge q hqg
      rw [h1] at h2
      exact absurd h2 (by decide)
    unfold splitL
    rw [if_neg hne, htk, if_neg (fun h => h rfl), ih, if_neg (fun h => h rfl)]
theorem takeP_inv {b : List Int} {f : Bool} {q : Pc} {r : List Int} (h : takeP b f = (0, q, r)) (hb : ∀ x, x ∈ b → By x) : q.Rg ∧ q.Right ∧ (f = true → isFirst q.kd = true) ∧ (0 < q.pd → r = []) ∧ ∃ X pb, b = X ++ (pb ++ r) ∧ putP q = X ++ tailL q.pd ∧ (pb.length : Int) = q.pd ∧ (0 < q.pd → pb.getD (pb.length - 1) 0 = q.pd) := by
  have hrg := (takeP_by (b := b) (f := f) hb).1
  rw [h] at hrg
  rcases b with _ | ⟨b0, _ | ⟨b1, _ | ⟨b2, _ | ⟨b3, t⟩⟩⟩⟩
  · cases h
  · cases h
  · cases h
  · cases h
  have g0 := hb b0 (by simp); have g1 := hb b1 (by simp); have g2 := hb b2 (by simp); have g3 := hb b3 (by simp)
  have hbt : ∀ x, x ∈ t → By x := fun x hx => hb x (by simp [hx])
  replace h : takeT b0 b1 (4 * vl [b2, b3]).toNat t f = (0, q, r) := h
  obtain ⟨w, hw⟩ : ∃ w, vl [b2, b3] = w := ⟨_, rfl⟩
  have hwb : 0 ≤ w ∧ w ≤ 65535 := by rw [← hw]; unfold By at g2 g3; simp only [vl, List.foldl]; omega
  have hbe := be2_vl b2 b3 g2 g3
  rw [hw] at h hbe
  obtain ⟨k, hk⟩ : ∃ k : Nat, (4 * w).toNat = k := ⟨_, rfl⟩
  have hkv : (k : Int) = 4 * w := by omega
  rw [hk] at h
  refine ⟨hrg, ?_⟩
  unfold By at g0 g1
  unfold takeT at h
  split at h
  · cases h
  · rename_i h64
    split at h
    · cases h
    · rename_i hff
      have hff2 : f = true → isFirst b1 = true := fun hf => by
        cases hi : isFirst b1 with
        | true => rfl
        | false => exact absurd ⟨hf, hi⟩ hff
      split at h
      · cases h
      · rename_i htk
        split at h
        · rename_i h32
          split at h
          · cases h
          · rename_i hz
            simp only [Prod.mk.injEq, true_and] at h
            obtain ⟨rfl, rfl⟩ := h
            obtain ⟨z, hzz⟩ : ∃ z, t.getD (k - 1) 0 = z := ⟨_, rfl⟩
            rw [hzz] at hz hrg ⊢
            have hzb := hrg.pd
            unfold By at hzb
            dsimp only at hzb
            obtain ⟨j, hj⟩ : ∃ j : Nat, z = j := ⟨z.toNat, by omega⟩
            have hlt : (t.take (k - z.toNat)).length = k - j := by rw [List.length_take]; omega
            refine ⟨⟨?_, ?_, ?_, ?_⟩, hff2, fun _ => rfl, [b0, b1] ++ be2 w ++ t.take (k - z.toNat), t.drop (k - z.toNat), ?_, ?_, ?_, fun _ => ?_⟩
            · dsimp only; omega
            · dsimp only; rw [hlt]; omega
            · dsimp only; omega
            · dsimp only; rw [hlt]; omega
            · rw [hbe, List.append_nil, List.append_assoc, List.take_append_drop]; rfl
            · unfold putP fst6
              dsimp only
              rw [hlt, if_pos (by omega), show ((k - j : Nat) : Int) + z = 4 * w from by omega, show 4 * w / 4 = w from by omega, show 128 + b0 % 32 + 32 = b0 from by omega]
              simp only [List.append_assoc]
            · dsimp only; rw [List.length_drop]; omega
            · dsimp only
              rw [List.length_drop, List.getD_eq_getElem?_getD, List.getElem?_drop, show k - z.toNat + (t.length - (k - z.toNat) - 1) = k - 1 from by omega, ← List.getD_eq_getElem?_getD]
              exact hzz
        · rename_i h32
          simp only [Prod.mk.injEq, true_and] at h
          obtain ⟨rfl, rfl⟩ := h
          have hlt : (t.take k).length = k := by rw [List.length_take]; omega
          refine ⟨⟨?_, ?_, ?_, ?_⟩, hff2, fun h => absurd (show (0 : Int) < 0 from h) (by decide), [b0, b1] ++ be2 w ++ t.take k, [], ?_, ?_, rfl, fun h => absurd (show (0 : Int) < 0 from h) (by decide)⟩
          · dsimp only; omega
          · dsimp only; rw [hlt]; omega
          · dsimp only; decide
          · dsimp only; rw [hlt]; omega
          · rw [hbe, List.nil_append, List.append_assoc, List.take_append_drop]; rfl
          · unfold putP fst6
            dsimp only
            rw [hlt, if_neg (by decide), show (k : Int) + 0 = 4 * w from by omega, show 4 * w / 4 = w from by omega, show 128 + b0 % 32 + 0 = b0 from by omega]
            simp only [List.append_assoc]
theorem split_inv : ∀ (K : Nat) (f : Bool) (b : List Int) (qs : List Pc), b.length + 1 ≤ K → (∀ x, x ∈ b → By x) → splitL K f b = (qs, 0) →
    okJ qs = true ∧ (f = true → qs ≠ [] ∧ isFirst (kind0 qs) = true) ∧ ∃ X pb pd, b = X ++ pb ∧ qs.flatMap putP = X ++ tailL pd ∧ (pb.length : Int) = pd ∧ (0 < pd → pb.getD (pb.length - 1) 0 = pd) ∧ (∀ q, qs.getLast? = some q → q.pd = pd)
  | 0, f, b, qs, hK, _, _ => absurd hK (by omega)
  | K + 1, f, b, qs, hK, hb, h => by
    unfold splitL at h
    split at h
    · rename_i h0
      simp only [Prod.mk.injEq, and_true] at h
      subst h
      refine ⟨rfl, fun hf => by (rw [h0.2] at hf; cases hf), [], [], 0, h0.1, rfl, rfl, fun h => absurd h (by decide), fun q hq => by cases hq⟩
    · rename_i hne
      split at h
      · rename_i h1
        simp only [Prod.mk.injEq] at h
        exact absurd h.2 h1
      · rename_i h1
        split at h
        · rename_i h2
          simp only [Prod.mk.injEq] at h
          exact absurd h.2 h2
        · rename_i h2
          simp only [Prod.mk.injEq, and_true] at h
          obtain ⟨⟨e, q, r⟩, ht⟩ : ∃ z, takeP b f = z := ⟨_, rfl⟩
          rw [ht] at h1 h2 h
          dsimp only at h1 h2 h
          have he : e = 0 := by simpa using h1
          subst he
          have hlen := takeP_len (b := b) (f := f) (by rw [ht])
          rw [ht] at hlen
          dsimp only at hlen
          have hbr := (takeP_by (b := b) (f := f) hb).2
          rw [ht] at hbr
          obtain ⟨i1, i2, i3, i4, X0, pb0, i5, i6, i7, i8⟩ := takeP_inv ht hb
          obtain ⟨⟨qs', e'⟩, hs⟩ : ∃ z, splitL K false r = z := ⟨_, rfl⟩
          rw [hs] at h2 h
          dsimp only at h2 h
          have he' : e' = 0 := by simpa using h2
          subst he'
          subst h
          obtain ⟨j1, _, X', pb', pd', j3, j4, j5, j6, j7⟩ := split_inv K false r qs' (by omega) hbr hs
          have hpd := i1.pd.1
          by_cases hp : 0 < q.pd
          · have hr := i4 hp
            subst hr
            have hq' : qs' = [] := by
              obtain ⟨K', rfl⟩ : ∃ K', K = K' + 1 := ⟨K - 1, by omega⟩
              have : splitL (K' + 1) false [] = ([], 0) := rfl
              rw [this] at hs
              simp only [Prod.mk.injEq, and_true] at hs
              exact hs.symm
            subst hq'
            refine ⟨?_, fun hf => ⟨by simp, i3 hf⟩, X0, pb0, q.pd, by rw [i5, List.append_nil], by rw [List.flatMap_singleton]; exact i6, i7, i8, fun z hz => ?_⟩
            · show (decide q.Right && (decide (q.pd ≤ 0) || true) && okJ []) = true
              rw [decide_eq_true i2, Bool.or_true]; rfl
            · simp only [List.getLast?_singleton, Option.some.injEq] at hz
              rw [hz]
          · have hp0 : q.pd = 0 := by omega
            rw [tailL_zero hp, List.append_nil] at i6
            have hpb : pb0 = [] := List.length_eq_zero_iff.1 (by omega)
            subst hpb
            refine ⟨?_, fun hf => ⟨by simp, i3 hf⟩, X0 ++ X', pb', pd', by rw [i5, j3, List.nil_append, List.append_assoc], by rw [List.flatMap_cons, i6, j4, List.append_assoc], j5, j6, fun z hz => ?_⟩
            · show (decide q.Right && (decide (q.pd ≤ 0) || qs'.isEmpty) && okJ qs') = true
              rw [decide_eq_true i2, decide_eq_true (show q.pd ≤ 0 by omega), j1]; rfl
            · cases qs' with
              | nil =>
                simp only [List.getLast?_singleton, Option.some.injEq] at hz
                rw [← hz, hp0]
                have hl := congrArg List.length j4
                simp only [List.flatMap_nil, List.length_nil, List.length_append] at hl
                have hpd'0 : 0 ≤ pd' := by omega
                have := tailL_len pd' hpd'0
                omega
              | cons a t =>
                rw [List.getLast?_cons_cons] at hz
                exact j7 z hz
theorem back_at {X pb : List Int} {pd : Int} (hp : (pb.length : Int) = pd) (hl : 0 < pd → pb.getD (pb.length - 1) 0 = pd) (i : Nat) (hi : i < X.length + pb.length) :
    (X.length ≤ i ∧ i < X.length + pb.length - 1 → (X ++ tailL pd).getD i 0 = 0) ∧ (¬ (X.length ≤ i ∧ i < X.length + pb.length - 1) → (X ++ tailL pd).getD i 0 = (X ++ pb).getD i 0) := by
  by_cases h : i < X.length
  · refine ⟨fun h' => by omega, fun _ => ?_⟩
    rw [List.getD_eq_getElem?_getD, List.getD_eq_getElem?_getD, List.getElem?_append_left h, List.getElem?_append_left h]
  · have h0 : 0 < pd := by omega
    have ea : ∀ Y : List Int, (X ++ Y).getD i 0 = Y.getD (i - X.length) 0 := fun Y => by
      rw [List.getD_eq_getElem?_getD, List.getD_eq_getElem?_getD, List.getElem?_append_right (by omega)]
    rw [tailL_pos h0, ea, ea, List.getD_eq_getElem?_getD]
    refine ⟨fun h' => ?_, fun h' => ?_⟩
    · rw [List.getElem?_append_left (by rw [List.length_replicate]; omega), List.getElem?_replicate, if_pos (by omega)]; rfl
    · have hi' : i - X.length = pb.length - 1 := by omega
      rw [List.getElem?_append_right (by rw [List.length_replicate]; omega), hi', List.length_replicate, show pb.length - 1 - (pd - 1).toNat = 0 from by omega, hl h0]
      rfl
end Go.Proofs.Ytogilblilljpmaa.X
/-
  RtcpBack: a walk of my own.
-/
namespace Go.Proofs.Ytogilblilljpmaa.X
open Go Go.RowKit
set_option linter.unusedVariables false
set_option linter.unusedSimpArgs false
theorem be2_by {n : Int} : ∀ x, x ∈ be2 n → By x := fun x hx => by
  simp only [be2, List.mem_cons, List.not_mem_nil, or_false] at hx
  unfold By
  rcases hx with rfl | rfl <;> omega
theorem tailL_by {pd : Int} (h : By pd) : ∀ x, x ∈ tailL pd → By x := fun x hx => by
  unfold tailL at hx
  split at hx
  · rcases List.mem_append.1 hx with h1 | h1
    · rw [(List.mem_replicate.1 h1).2]; exact ⟨by decide, by decide⟩
    · rw [List.mem_singleton.1 h1]; exact h
  · cases hx
theorem putP_by {q : Pc} (hg : q.Rg) (hR : q.Right) : ∀ x, x ∈ putP q → By x := fun x hx => by
  unfold putP at hx
  rcases List.mem_append.1 hx with h1 | h1
  · rcases List.mem_append.1 h1 with h2 | h2
    · simp only [List.mem_cons, List.not_mem_nil, or_false] at h2
      rcases h2 with rfl | rfl
      · have h3 := hR.1
        have h4 := hg.ct.1
        unfold fst6 By
        split <;> omega
      · exact hg.kd
    · exact be2_by x h2
  · rcases List.mem_append.1 h1 with h2 | h2
    · exact hg.bd x h2
    · exact tailL_by hg.pd x h2
theorem okJ_all {l : List Pc} (h : okJ l = true) : ∀ q, q ∈ l → q.Right := fun q hq => by
  obtain ⟨j, hj, rfl⟩ := List.getElem_of_mem hq
  exact ((okJ_iff l).1 h j hj).1
theorem flat_by {l : List Pc} (h : okJ l = true) (hg : ∀ q, q ∈ l → q.Rg) : ∀ x, x ∈ l.flatMap putP → By x := fun x hx => by
  obtain ⟨q, hq, hm⟩ := List.mem_flatMap.1 hx
  exact putP_by (hg q hq) (okJ_all h q hq) x hm
theorem flat_le {l : List Pc} (h : okJ l = true) (hg : ∀ q, q ∈ l → q.Rg) : (l.flatMap putP).length ≤ l.length * 262144 := by
  have : ∀ r : List Pc, (∀ q, q ∈ r → (putP q).length ≤ 262144) → (r.flatMap putP).length ≤ r.length * 262144 := fun r => by
    induction r with
    | nil => intro _; exact Nat.le_refl _
    | cons a r ih => intro h; rw [List.flatMap_cons, List.length_append, List.length_cons]; have := ih fun x hx => h x (List.mem_cons_of_mem _ hx); have := h a (List.mem_cons_self ..); omega
  exact this l fun q hq => putP_le q (hg q hq) (okJ_all h q hq)
theorem flat_ge {l : List Pc} (hg : ∀ q, q ∈ l → q.Rg) : 4 * l.length ≤ (l.flatMap putP).length := by
  induction l with
  | nil => exact Nat.le_refl _
  | cons a r ih => rw [List.flatMap_cons, List.length_append, List.length_cons]; have := ih fun x hx => hg x (List.mem_cons_of_mem _ hx); have := putP_ge a (hg a (List.mem_cons_self ..)); omega
theorem joinL_ok {qs : List Pc} {out : List Int} (h : joinL qs = (out, 0)) : qs ≠ [] ∧ okJ qs = true ∧ isFirst (kind0 qs) = true ∧ out = qs.flatMap putP := by
  unfold joinL at h
  split at h
  · simp at h
  · rename_i h1
    split at h
    · rename_i h2
      split at h
      · rename_i h3
        simp only [Prod.mk.injEq, and_true] at h
        exact ⟨h1, h2, h3, h.symm⟩
      · simp at h
    · simp at h
theorem joinL_of {qs : List Pc} (h1 : qs ≠ []) (h2 : okJ qs = true) (h3 : isFirst (kind0 qs) = true) : joinL qs = (qs.flatMap putP, 0) := by
  unfold joinL
  rw [if_neg h1, if_pos h2, if_pos h3]
theorem joinL_le {qs : List Pc} (hg : ∀ q, q ∈ qs → q.Rg) (hs : ∀ q, q ∈ qs → q.bd.length ≤ 800) : (joinL qs).1.length ≤ qs.length * 1059 := by
  have hfl : (qs.flatMap putP).length ≤ qs.length * 1059 := by
    induction qs with
    | nil => exact Nat.le_refl _
    | cons a r ih =>
      rw [List.flatMap_cons, List.length_append, List.length_cons]
      have h1 := ih (fun x hx => hg x (List.mem_cons_of_mem _ hx)) (fun x hx => hs x (List.mem_cons_of_mem _ hx))
      have h2 := putP_len a (hg a (List.mem_cons_self ..))
      have h3 := hs a (List.mem_cons_self ..)
      have h4 := (hg a (List.mem_cons_self ..)).pd.2
      omega
  unfold joinL
  split
  · exact Nat.zero_le _
  · split
    · split
      · exact hfl
      · exact Nat.zero_le _
    · exact Nat.zero_le _
end Go.Proofs.Ytogilblilljpmaa.X
