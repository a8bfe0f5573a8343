/-
  Texts of my own, put together: walks and laws for this seat. No condition.
-/
import Derived.Test.YtohlaabclifbfaaM5
import Derived.Lib.AppendStr
/-
  Numbers and noughts are written: walks of my own.
-/
namespace Go.Proofs.Ytohlaabclifbfaa.X
open Go Go.RowKit
set_option linter.unusedVariables false
set_option linter.unusedSimpArgs false
section
variable {P : Program} {W : World} {n : Nat} {L : List Blk} {E : List (Nat × Value)} {d : Option Nat} {t : TypeId} {pos : String} {after : Array Edge} {g : Option (Nat × Bool)}
/-- The whole of an array, as a slice. -/
theorem rd_slArr {T e len b m : Nat} {x : Operand} [hT : Ar P T len e] [hS : Ts P e m] (hx : ev E x = some (.pointer (some ⟨b, 0, none⟩))) (hl : len ≠ 0) :
    RD P W n L E ⟨d, .slice T x none none none, t, pos, after, g⟩ (.slice (some ⟨b, 0, none⟩) len len) := .mk fun a w ha hw => by
  have hB := hS.h w
  simp [execOp, ha.eval hx, Instr.sliceAt, Instr.sliceBounds, Instr.sureAddr, run_underlying hT.h, hB, hl, add_zero']
end
theorem rd_buildArr {P : Program} {W : World} {n : Nat} {L : List Blk} {E : List (Nat × Value)} {d : Option Nat} {t : TypeId} {pos : String} {after : Array Edge} {g : Option (Nat × Bool)} {T len e s : Nat} {parts : List (Nat × Operand)} {us : List (Nat × Value)} {z : Value} {cells : Array Value} [hT : Ar P T len e] [hS : Ts P e s] [h0 : T0 P T z] (hp : evp E parts = some us) (hf : Instr.fill (fun i => some (i * s, s)) z.cells us = some cells) :
    RD P W n L E ⟨d, .build T parts.toArray, t, pos, after, g⟩ (.agg cells) := .mk fun a w ha hw => by
  have hB := hS.h w
  have hz := h0.h w
  have he := ha.evalp hp
  simp only [execOp, Instr.build, Sem.run_bind, hz, Result.andThen_ok, run_underlying hT.h, hB, List.map_toArray, he, hf]
  rfl
theorem flat4_len (l : List Int) : (l.flatMap be4).length = 4 * l.length := by
  induction l with
  | nil => rfl
  | cons a r ih => rw [List.flatMap_cons, List.length_append, ih]; simp [be4]; omega
theorem be4_by (n : Int) : ∀ x, x ∈ be4 n → By x := fun x h => by
  simp only [be4, List.mem_cons, List.not_mem_nil, or_false] at h
  unfold By
  rcases h with rfl | rfl | rfl | rfl <;> omega
structure LgS where
  i : Nat
  s : Option Addr
  k : Nat
  l : List Blk
set_option maxHeartbeats 2000000 in
theorem xf_long {W : World} {L : List Blk} (p : Option Addr) (n c : Nat) (ns : List Int) (hx : ns.length = n) (hr : Rs W L p (ints .u32 ns)) (hb : ∀ x, x ∈ ns → U4 x) (hn : n ≤ 1000000) :
    XF Try.prog W 56 #[.slice p n c] L (fun v L' => ∃ s k l, v = .slice s (4 * n) k ∧ SlO 1 5 (.slice s (4 * n) k) (4 * n) (ints .u8 (ns.flatMap be4)) l ∧ L' = l ++ L) := by
  refine xf_enter (args := [_]) Try.func56 rfl Try.ntmps56 rfl ?_
  focus
    refine xc_seq ?_
    refine xc_region ?_
    refine xo_rd (rd_assign rfl) rfl ?_
    refine xo_nil ?_
    refine xq_seq ?_
    refine xc_seq ?_
    refine xc_seq ?_
    refine xc_region ?_
    refine xo_rd (rd_move rfl) rfl ?_
    refine xo_rd (rd_len rfl) rfl ?_
    refine xo_rd (rd_move rfl) rfl ?_
    refine xo_nil ?_
    refine xq_seq ?_
    refine xc_block ?_
  refine xc_loopI (ι := LgS) (fun z => z.i ≤ n ∧ SlO 1 5 (.slice z.s (4 * z.i) z.k) (4 * z.i) (ints .u8 ((ns.take z.i).flatMap be4)) z.l) (fun z => n - z.i) (fun z => z.l ++ L) (fun z => [(2, .slice z.s (4 * z.i) z.k), (6, .slice p n c), (7, .int .i64 n), (8, .int .i64 z.i)]) ⟨0, none, 0, []⟩ ⟨Nat.zero_le _, SlO.nil⟩ rfl (by repeat (first | exact keep_nil | refine keep_cons rfl ?_)) ?_
  rintro ⟨i, s, k, l⟩ ⟨hi, hO⟩
  dsimp only at hi hO ⊢
  by_cases hin : i < n
  · obtain ⟨b, o, hp, hc⟩ := hr.int (i := i) (by omega)
    subst hp
    have hu := hb ns[i] (List.getElem_mem _)
    have e1 : ns.take (i + 1) = ns.take i ++ [ns[i]] := by rw [List.take_add_one, List.getElem?_eq_getElem (by omega)]; rfl
    generalize ns[i] = z at *
    unfold U4 at hu
    have hc' : ∀ L', (∀ z, z ∈ L → z ∈ L') → Cl W L' b (o + (i : Int).toNat * 1) (.int .u32 z) := fun L' h => hc.mono h
    focus
      refine xc_seq ?_
      refine xc_region ?_
      refine xo_rd (rd_lss rfl rfl) rfl ?_
      refine xo_nil ?_
      refine xq_seq ?_
      refine xc_seq ?_
      refine xc_dec rfl (fun hq1 => ?_) (fun hq1 => (by exfalso; omega))
      refine xc_skip ?_
      refine xq_seq ?_
      refine xc_seq ?_
      refine xc_block ?_
      refine xc_seq ?_
      refine xc_region ?_
      refine xo_rd (rd_indexAddr rfl rfl (by omega) (by omega)) rfl ?_
      refine xo_rd (rd_load1 rfl (hc' _ (by intro z hz; simp [hz]))) rfl ?_
      refine xo_rd (rd_assign rfl) rfl ?_
      refine xo_nil ?_
      refine xq_seq ?_
      refine xc_seq ?_
      refine xc_region ?_
      refine xo_rd (rd_move rfl) rfl ?_
      refine xo_rd (rd_cast (v' := .int .u32 (z / 16777216)) (rd_shr rfl rfl (by decide) (by decide)) rfl) rfl ?_
      refine xo_rd (rd_cast (v' := .int .u8 (z / 16777216 % 256)) (rd_conv rfl) (congrArg (Value.int .u8) (wrap8 (z / 16777216)))) rfl ?_
      refine xo_rd (rd_move rfl) rfl ?_
      refine xo_rd (rd_cast (v' := .int .u32 (z / 65536)) (rd_shr rfl rfl (by decide) (by decide)) rfl) rfl ?_
      refine xo_rd (rd_cast (v' := .int .u8 (z / 65536 % 256)) (rd_conv rfl) (congrArg (Value.int .u8) (wrap8 (z / 65536)))) rfl ?_
      refine xo_rd (rd_move rfl) rfl ?_
      refine xo_rd (rd_cast (v' := .int .u32 (z / 256)) (rd_shr rfl rfl (by decide) (by decide)) rfl) rfl ?_
      refine xo_rd (rd_cast (v' := .int .u8 (z / 256 % 256)) (rd_conv rfl) (congrArg (Value.int .u8) (wrap8 (z / 256)))) rfl ?_
      refine xo_rd (rd_move rfl) rfl ?_
      refine xo_rd (rd_cast (v' := .int .u8 (z % 256)) (rd_conv rfl) (congrArg (Value.int .u8) (wrap8 z))) rfl ?_
      refine xo_rd (rd_buildArr (cells := (ints .u8 (be4 z)).toArray) rfl (by kernel_rfl)) rfl ?_
      refine xo_ef rfl (ef_alloc fun r5 => ?_)
      refine xo_ef rfl (ef_storeB [] _ rfl rfl (by first | rfl | assumption) rfl rfl rfl ?_)
      refine xo_nil ?_
      refine xq_seq ?_
      refine xc_region ?_
      refine xo_rd (rd_move rfl) rfl ?_
      refine xo_rd (rd_slArr rfl (by decide)) rfl ?_
      refine xo_ef rfl (ef_appendG [(r5, .cells (ints .u8 (be4 z)).toArray 131 (0, 0))] L l (news := ints .u8 (be4 z)) rfl rfl hO rfl (Rs.fresh (List.Mem.head _)) rfl rfl (by decide) (by omega) (by omega) fun s' k' l' hO' hk' => ?_)
      refine xo_rd (rd_assign rfl) rfl ?_
      refine xo_nil ?_
      refine xq_block ?_
      refine xq_seq ?_
      refine xc_region ?_
      refine xo_rd (rd_addn rfl rfl (by omega) (by omega)) rfl ?_
      refine xo_rd (rd_move rfl) rfl ?_
      refine xo_nil ?_
    refine xq_roundI (⟨i + 1, s', k', l'⟩ : LgS) ⟨by dsimp only; omega, ?_⟩ (by dsimp only; omega) rfl (by repeat (first | exact keep_nil | refine keep_cons rfl ?_))
    dsimp only
    rw [e1, List.flatMap_append, List.flatMap_singleton, ints_app]
    exact hO'
  · focus
      refine xc_seq ?_
      refine xc_region ?_
      refine xo_rd (rd_lss rfl rfl) rfl ?_
      refine xo_nil ?_
      refine xq_seq ?_
      refine xc_seq ?_
      refine xc_dec rfl (fun h1 => (by exfalso; omega)) (fun h1 => ?_)
      refine xc_exit ?_
      refine xq_then_exit ?_
      refine xq_then_exit ?_
      refine xq_block_hit ?_
      refine xq_seq ?_
      refine xc_seq ?_
      refine xc_region ?_
      refine xo_rd (rd_move rfl) rfl ?_
      refine xo_rd (rd_assign rfl) rfl ?_
      refine xo_nil ?_
      refine xq_seq ?_
      refine xc_ret ?_
    obtain rfl : i = n := by omega
    rw [List.take_of_length_le (by omega)] at hO
    exact xq_ret1 (.inl rfl) Try.results56 rfl ⟨s, k, l, rfl, hO, rfl⟩
theorem and64_3 (m : Nat) (h : m ≤ 1000000000000) : bits .and .i64 (-(m : Int)) 3 = (((4 - m % 4) % 4 : Nat) : Int) := by
  have e1 : (BitVec.ofInt 64 (-(m : Int)) &&& BitVec.ofInt 64 3).toNat = (4 - m % 4) % 4 := by
    rw [BitVec.toNat_and, BitVec.toNat_ofInt, show (BitVec.ofInt 64 3).toNat = 2 ^ 2 - 1 from by decide, Nat.and_two_pow_sub_one_eq_mod]
    omega
  show IntKind.i64.wrap ((BitVec.ofInt 64 (-(m : Int)) &&& BitVec.ofInt 64 3).toNat : Int) = _
  rw [e1, IntKind.wrap_i64]
  omega
section
variable {P : Program} {W : World} {n : Nat} {L : List Blk} {E : List (Nat × Value)} {d : Option Nat} {t : TypeId} {pos : String} {after : Array Edge} {g : Option (Nat × Bool)}
theorem rd_neg {T : Nat} {x : Operand} {k : IntKind} {i : Int} (hx : ev E x = some (.int k i)) :
    RD P W n L E ⟨d, .unOp .neg T x, t, pos, after, g⟩ (.int k (k.wrap (-i))) := .mk fun a w ha hw => by
  simp [execOp, ha.eval hx, Op.unary, Op.intArith]
end
theorem ints_rep (k : IntKind) (m : Nat) (x : Int) : ints k (List.replicate m x) = List.replicate m (.int k x) := by simp [ints]
theorem xf_filled {W : World} {L : List Blk} (v : Value) (m : Nat) (xs : List Int) (l : List Blk) (hO : SlO 1 5 v m (ints .u8 xs) l) (hm : m ≤ 1000000000000) :
    XF Try.prog W 57 #[v] (l ++ L) (fun v L' => ∃ s k l', v = .slice s (m + (4 - m % 4) % 4) k ∧ SlO 1 5 (.slice s (m + (4 - m % 4) % 4) k) (m + (4 - m % 4) % 4) (ints .u8 (xs ++ List.replicate ((4 - m % 4) % 4) 0)) l' ∧ L' = l' ++ L) := by
  refine xf_enter (args := [_]) Try.func57 rfl Try.ntmps57 rfl ?_
  obtain ⟨s, k, rfl, hO, hk⟩ := hO.opn
  focus
    refine xc_seq ?_
    refine xc_region ?_
    refine xo_rd (rd_assign rfl) rfl ?_
    refine xo_nil ?_
    refine xq_seq ?_
    refine xc_seq ?_
    refine xc_region ?_
    refine xo_rd (rd_move rfl) rfl ?_
    refine xo_rd (rd_move rfl) rfl ?_
    refine xo_rd (rd_len rfl) rfl ?_
    refine xo_rd (rd_cast (v' := .int .i64 (-(m : Int))) (rd_neg rfl) (congrArg (Value.int .i64) (KB.h _ (by omega) (by omega)))) rfl ?_
    refine xo_rd (rd_cast (v' := .int .i64 (((4 - m % 4) % 4 : Nat) : Int)) (rd_and rfl rfl) (congrArg (Value.int .i64) (and64_3 m hm))) rfl ?_
    refine xo_ef rfl (ef_appendZ [] L l ((4 - m % 4) % 4) rfl rfl rfl hO rfl rfl rfl (by omega) (by omega) fun s' k' l' hO' hk' => ?_)
    refine xo_rd (rd_assign rfl) rfl ?_
    refine xo_nil ?_
    refine xq_seq ?_
    refine xc_ret ?_
  refine xq_ret1 (.inl rfl) Try.results57 rfl ⟨s', k', l', rfl, ?_, rfl⟩
  rw [ints_app, ints_rep]
  exact hO'
end Go.Proofs.Ytohlaabclifbfaa.X
/-
  Blocks are written: a walk of my own.
-/
namespace Go.Proofs.Ytohlaabclifbfaa.X
open Go Go.RowKit
set_option linter.unusedVariables false
set_option linter.unusedSimpArgs false
structure Bk where
  ss : Int
  lo : Int
  to : Int
  hi : Int
  ji : Int
  ls : Int
  dl : Int
deriving DecidableEq
def Bk.enc (x : Bk) : List Value := [.int .u32 x.ss, .int .u8 x.lo, .int .i32 x.to, .int .u32 x.hi, .int .u32 x.ji, .int .u32 x.ls, .int .u32 x.dl]
theorem Bk.len (x : Bk) : x.enc.length = 7 := rfl
theorem Bk.one (x : Bk) : x.enc.all (·.oneCell') = true := rfl
structure Bk.Rg (x : Bk) : Prop where
  ss : U4 x.ss
  lo : By x.lo
  to : -2147483648 ≤ x.to ∧ x.to ≤ 2147483647
  hi : U4 x.hi
  ji : U4 x.ji
  ls : U4 x.ls
  dl : U4 x.dl
def Bk.fit (x : Bk) : Bool := decide (-8388608 ≤ x.to ∧ x.to ≤ 8388607)
def Bk.nums (x : Bk) : List Int := [x.ss, x.lo * 16777216 + x.to % 16777216, x.hi, x.ji, x.ls, x.dl]
def bkL (x : Bk) : List Int := x.nums.flatMap be4
def blkR (l : List Bk) : List Int × Bool := if l.all Bk.fit then (l.flatMap bkL, decide (l.length ≤ 31)) else ([], false)
theorem bkL_len (x : Bk) : (bkL x).length = 24 := rfl
theorem bkLs_len (l : List Bk) : (l.flatMap bkL).length = 24 * l.length := by
  induction l with
  | nil => rfl
  | cons a r ih => rw [List.flatMap_cons, List.length_append, ih, bkL_len]; simp; omega
theorem and32_24 (x : Int) (h0 : 0 ≤ x) (h1 : x ≤ 4294967295) : bits .and .u32 x 16777215 = x % 16777216 := by
  obtain ⟨n, rfl⟩ := Int.eq_ofNat_of_zero_le h0
  have e1 : (BitVec.ofInt 32 (n : Int) &&& BitVec.ofInt 32 16777215).toNat = n % 16777216 := by
    rw [BitVec.toNat_and, show (BitVec.ofInt 32 16777215).toNat = 2 ^ 24 - 1 from by decide, Nat.and_two_pow_sub_one_eq_mod, BitVec.ofInt_natCast, BitVec.toNat_ofNat]
    have : n % 2 ^ 32 = n := Nat.mod_eq_of_lt (by omega)
    rw [this]
  show IntKind.u32.wrap ((BitVec.ofInt 32 (n : Int) &&& BitVec.ofInt 32 16777215).toNat : Int) = _
  rw [e1, wrap32]; omega
theorem or32_24 (a c : Int) (h0 : 0 ≤ a) (h1 : a ≤ 255) (h2 : 0 ≤ c) (h3 : c < 16777216) : bits .or .u32 (a * 16777216) c = a * 16777216 + c := by
  obtain ⟨n, rfl⟩ := Int.eq_ofNat_of_zero_le h0
  obtain ⟨k, rfl⟩ := Int.eq_ofNat_of_zero_le h2
  have e1 : (BitVec.ofInt 32 ((n : Int) * 16777216) ||| BitVec.ofInt 32 (k : Int)).toNat = n * 16777216 + k := by
    rw [BitVec.toNat_or]
    have a1 : (BitVec.ofInt 32 ((n : Int) * 16777216)).toNat = n * 16777216 := by
      rw [show ((n : Int) * 16777216) = ((n * 16777216 : Nat) : Int) from by omega, BitVec.ofInt_natCast, BitVec.toNat_ofNat]
      exact Nat.mod_eq_of_lt (by show n * 16777216 < 4294967296; omega)
    have a2 : (BitVec.ofInt 32 (k : Int)).toNat = k := by
      rw [BitVec.ofInt_natCast, BitVec.toNat_ofNat]
      exact Nat.mod_eq_of_lt (by show k < 4294967296; omega)
    rw [a1, a2, Nat.mul_comm n 16777216]
    exact (Nat.two_pow_add_eq_or_of_lt (i := 24) (b := k) (by omega) n).symm.trans (by omega)
  show IntKind.u32.wrap ((BitVec.ofInt 32 ((n : Int) * 16777216) ||| BitVec.ofInt 32 (k : Int)).toNat : Int) = _
  rw [e1, wrap32]; omega
theorem Bk.nums_u4 {x : Bk} (h : x.Rg) : ∀ z, z ∈ x.nums → U4 z := by
  have h1 := h.ss; have h2 := h.lo; have h4 := h.hi; have h5 := h.ji; have h6 := h.ls; have h7 := h.dl
  intro z hz
  simp only [Bk.nums, List.mem_cons, List.not_mem_nil, or_false] at hz
  rcases hz with rfl | rfl | rfl | rfl | rfl | rfl
  · exact h1
  · unfold By at h2; unfold U4; omega
  · exact h4
  · exact h5
  · exact h6
  · exact h7
/-- What blocks are written as. -/
def BlM (L : List Blk) (z : List Int × Bool) (v : Value) (L' : List Blk) : Prop :=
  ∃ s k l, v = .tuple #[.slice s z.1.length k, .bool z.2] ∧ SlO 1 5 (.slice s z.1.length k) z.1.length (ints .u8 z.1) l ∧ L' = l ++ L
set_option maxHeartbeats 4000000 in
theorem xf_blocks {W : World} {L : List Blk} (p : Option Addr) (n c : Nat) (xs : List Bk) (hx : xs.length = n) (hr : Rs W L p (xs.flatMap Bk.enc)) (hg : ∀ x, x ∈ xs → x.Rg) (hn : n ≤ 1000000) :
    XF Try.prog W 55 #[.slice p n c] L (BlM L (blkR xs)) := by
  refine xf_enter (args := [_]) Try.func55 rfl Try.ntmps55 rfl ?_
  focus
    refine xc_seq ?_
    refine xc_region ?_
    refine xo_rd (rd_assign rfl) rfl ?_
    refine xo_rd (rd_assign rfl) rfl ?_
    refine xo_nil ?_
    refine xq_seq ?_
    refine xc_seq ?_
    refine xc_seq ?_
    refine xc_region ?_
    refine xo_rd (rd_move rfl) rfl ?_
    refine xo_rd (rd_len rfl) rfl ?_
    refine xo_rd (rd_move rfl) rfl ?_
    refine xo_nil ?_
    refine xq_seq ?_
    refine xc_block ?_
  refine xc_loopI (ι := LgS) (fun z => z.i ≤ n ∧ (∀ j (h : j < xs.length), j < z.i → xs[j].fit = true) ∧ SlO 1 5 (.slice z.s (24 * z.i) z.k) (24 * z.i) (ints .u8 ((xs.take z.i).flatMap bkL)) z.l) (fun z => n - z.i) (fun z => z.l ++ L) (fun z => [(0, .slice p n c), (2, .slice z.s (24 * z.i) z.k), (7, .slice p n c), (8, .int .i64 n), (9, .int .i64 z.i)]) ⟨0, none, 0, []⟩ ⟨Nat.zero_le _, (fun j h hj => absurd hj (Nat.not_lt_zero _)), SlO.nil⟩ rfl (by repeat (first | exact keep_nil | refine keep_cons rfl ?_)) ?_
  rintro ⟨i, s, k, l⟩ ⟨hi, hok, hO⟩
  dsimp only at hi hok hO ⊢
  by_cases hin : i < n
  · obtain ⟨b, o, hp, hc⟩ := hr.rows Bk.len (by decide) (by omega)
    subst hp
    have hci := hc i (by omega)
    have hgx := hg xs[i] (List.getElem_mem _)
    have e1 : xs.take (i + 1) = xs.take i ++ [xs[i]] := by rw [List.take_add_one, List.getElem?_eq_getElem (by omega)]; rfl
    have hbad : xs[i].fit = false → blkR xs = ([], false) := fun h => by
      unfold blkR
      rw [if_neg]
      intro ha
      have := List.all_eq_true.1 ha xs[i] (List.getElem_mem _)
      rw [h] at this; cases this
    have hok' : xs[i].fit = true → ∀ j (h : j < xs.length), j < i + 1 → xs[j].fit = true := fun h j hj hji => by
      by_cases hji2 : j < i
      · exact hok j hj hji2
      · obtain rfl : j = i := by omega
        exact h
    generalize xs[i] = x at *
    have hcI : ∀ L', (∀ z, z ∈ L → z ∈ L') → ∀ (j : Nat) (u : Value), x.enc[j]? = some u → Cl W L' b (o + (i : Int).toNat * 7 + j) u := fun L' h j u hj => (hci j u hj).mono h
    have h1 := hgx.ss; have h2 := hgx.lo; have h3 := hgx.to; have h4 := hgx.hi; have h5 := hgx.ji; have h6 := hgx.ls; have h7 := hgx.dl
    have hnu := Bk.nums_u4 hgx
    obtain ⟨ss, lo, to, hi', ji, ls, dl⟩ := x
    dsimp only [By, U4] at h1 h2 h3 h4 h5 h6 h7
    by_cases hf : -8388608 ≤ to ∧ to ≤ 8388607
    · skip
      focus
        refine xc_seq ?_
        refine xc_region ?_
        refine xo_rd (rd_lss rfl rfl) rfl ?_
        refine xo_nil ?_
        refine xq_seq ?_
        refine xc_seq ?_
        refine xc_dec rfl (fun hq1 => ?_) (fun hq1 => (by exfalso; omega))
        refine xc_skip ?_
        refine xq_seq ?_
        refine xc_seq ?_
        refine xc_block ?_
        refine xc_seq ?_
        refine xc_region ?_
        refine xo_rd (rd_indexAddr rfl rfl (by omega) (by omega)) rfl ?_
        refine xo_rd (rd_loadA (vs := [Value.int .u32 ss, .int .u8 lo, .int .i32 to, .int .u32 hi', .int .u32 ji, .int .u32 ls, .int .u32 dl]) rfl rfl (hcI _ (by intro z hz; simp [hz]))) rfl ?_
        refine xo_ef rfl (ef_alloc fun r5 => ?_)
        refine xo_ef rfl (ef_storeB [] _ rfl rfl (by first | rfl | assumption) rfl rfl rfl ?_)
        refine xo_nil ?_
        refine xq_seq ?_
        refine xc_seq ?_
        refine xc_seq ?_
        refine xc_region ?_
        refine xo_rd (rd_fieldAddr rfl) rfl ?_
        refine xo_rd (rd_load1 rfl (Cl.o0 rfl)) rfl ?_
        refine xo_rd (rd_lss rfl rfl) rfl ?_
        refine xo_rd (rd_move rfl) rfl ?_
        refine xo_dec 16 rfl (fun hq2 => (by exfalso; omega)) (fun hq2 => ?_)
        refine xo_grd rfl rfl (rd_fieldAddr rfl) rfl ?_
        refine xo_grd rfl rfl (rd_load1 rfl (Cl.o0 rfl)) rfl ?_
        refine xo_grd rfl rfl (rd_geq rfl rfl) rfl ?_
        refine xo_rd (rd_pickf rfl rfl) rfl ?_
        refine xo_nil ?_
        refine xq_seq ?_
        refine xc_dec rfl (fun hq3 => (by exfalso; omega)) (fun hq3 => ?_)
        refine xc_skip ?_
        refine xq_seq ?_
        refine xc_seq ?_
        refine xc_region ?_
        refine xo_rd (rd_fieldAddr rfl) rfl ?_
        refine xo_rd (rd_load1 rfl (Cl.o0 rfl)) rfl ?_
        refine xo_rd (rd_convn rfl (by omega) (by omega)) rfl ?_
        refine xo_rd (rd_cast (v' := .int .u32 (lo * 16777216)) (rd_shl rfl rfl (by decide) (by decide)) (congrArg (Value.int .u32) (show IntKind.u32.wrap (lo * 16777216) = lo * 16777216 from KB.h _ (by omega) (by omega)))) rfl ?_
        refine xo_rd (rd_fieldAddr rfl) rfl ?_
        refine xo_rd (rd_load1 rfl (Cl.o0 rfl)) rfl ?_
        refine xo_rd (rd_cast (v' := .int .u32 (to % 4294967296)) (rd_conv rfl) (congrArg (Value.int .u32) (wrap32 to))) rfl ?_
        refine xo_rd (rd_cast (v' := .int .u32 (to % 16777216)) (rd_and rfl rfl) (congrArg (Value.int .u32) (by rw [and32_24 (to % 4294967296) (by omega) (by omega)]; omega))) rfl ?_
        refine xo_rd (rd_cast (v' := .int .u32 (lo * 16777216 + to % 16777216)) (rd_or rfl rfl) (congrArg (Value.int .u32) (or32_24 lo (to % 16777216) h2.1 h2.2 (by omega) (by omega)))) rfl ?_
        refine xo_rd (rd_assign rfl) rfl ?_
        refine xo_nil ?_
        refine xq_seq ?_
        refine xc_region ?_
        refine xo_rd (rd_move rfl) rfl ?_
        refine xo_rd (rd_fieldAddr rfl) rfl ?_
        refine xo_rd (rd_load1 rfl (Cl.o0 rfl)) rfl ?_
        refine xo_rd (rd_move rfl) rfl ?_
        refine xo_rd (rd_fieldAddr rfl) rfl ?_
        refine xo_rd (rd_load1 rfl (Cl.o0 rfl)) rfl ?_
        refine xo_rd (rd_fieldAddr rfl) rfl ?_
        refine xo_rd (rd_load1 rfl (Cl.o0 rfl)) rfl ?_
        refine xo_rd (rd_fieldAddr rfl) rfl ?_
        refine xo_rd (rd_load1 rfl (Cl.o0 rfl)) rfl ?_
        refine xo_rd (rd_fieldAddr rfl) rfl ?_
        refine xo_rd (rd_load1 rfl (Cl.o0 rfl)) rfl ?_
        refine xo_ef rfl (ef_buildL (T := 55) (len := 6) (s := 1) (cells := (ints .u32 [ss, lo * 16777216 + to % 16777216, hi', ji, ls, dl]).toArray) rfl (by decide) (by decide) (by kernel_rfl) fun r42 => ?_)
        refine xo_ef rfl (ef_call rfl (XF.mono (xf_long (some ⟨r42, 0, none⟩) 6 6 [ss, lo * 16777216 + to % 16777216, hi', ji, ls, dl] rfl (Rs.fresh (List.Mem.head _)) hnu (by decide)) ?_))
        rintro v L' ⟨s2, k2, l2, rfl, hO2, rfl⟩
        refine xo_ef rfl (ef_appendG (l2 ++ [(r42, .cells (ints .u32 [ss, lo * 16777216 + to % 16777216, hi', ji, ls, dl]).toArray 49 (0, 0)), (r5, .cells #[Value.int .u32 ss, .int .u8 lo, .int .i32 to, .int .u32 hi', .int .u32 ji, .int .u32 ls, .int .u32 dl] 95 (0, 0))]) L l (news := ints .u8 (bkL ⟨ss, lo, to, hi', ji, ls, dl⟩)) rfl rfl hO (by simp) (hO2.rs (by intro z hz; simp [hz])) rfl (ints_one _ _) (by decide) (by omega) (by omega) fun s3 k3' l3 hO3 hk3 => ?_)
        refine xo_rd (rd_assign rfl) rfl ?_
        refine xo_nil ?_
        refine xq_block ?_
        refine xq_seq ?_
        refine xc_region ?_
        refine xo_rd (rd_addn rfl rfl (by omega) (by omega)) rfl ?_
        refine xo_rd (rd_move rfl) rfl ?_
        refine xo_nil ?_
      all_goals refine xq_roundI (⟨i + 1, s3, k3', l3⟩ : LgS) ⟨by dsimp only; omega, hok' (decide_eq_true hf), ?_⟩ (by dsimp only; omega) rfl (by repeat (first | exact keep_nil | refine keep_cons rfl ?_))
      all_goals (dsimp only; rw [e1, List.flatMap_append, List.flatMap_singleton, ints_app]; exact hO3)
    · skip
      rw [hbad (decide_eq_false hf)]
      focus
        refine xc_seq ?_
        refine xc_region ?_
        refine xo_rd (rd_lss rfl rfl) rfl ?_
        refine xo_nil ?_
        refine xq_seq ?_
        refine xc_seq ?_
        refine xc_dec rfl (fun hq1 => ?_) (fun hq1 => (by exfalso; omega))
        refine xc_skip ?_
        refine xq_seq ?_
        refine xc_seq ?_
        refine xc_block ?_
        refine xc_seq ?_
        refine xc_region ?_
        refine xo_rd (rd_indexAddr rfl rfl (by omega) (by omega)) rfl ?_
        refine xo_rd (rd_loadA (vs := [Value.int .u32 ss, .int .u8 lo, .int .i32 to, .int .u32 hi', .int .u32 ji, .int .u32 ls, .int .u32 dl]) rfl rfl (hcI _ (by intro z hz; simp [hz]))) rfl ?_
        refine xo_ef rfl (ef_alloc fun r5 => ?_)
        refine xo_ef rfl (ef_storeB [] _ rfl rfl (by first | rfl | assumption) rfl rfl rfl ?_)
        refine xo_nil ?_
        refine xq_seq ?_
        refine xc_seq ?_
        refine xc_seq ?_
        refine xc_region ?_
        refine xo_rd (rd_fieldAddr rfl) rfl ?_
        refine xo_rd (rd_load1 rfl (Cl.o0 rfl)) rfl ?_
        refine xo_rd (rd_lss rfl rfl) rfl ?_
        refine xo_rd (rd_move rfl) rfl ?_
        refine xo_dec 16 rfl (fun hq2 => ?_) (fun hq2 => ?_)
        refine xo_gskip rfl rfl rfl rfl ?_
        refine xo_gskip rfl rfl rfl rfl ?_
        refine xo_gskip rfl rfl rfl rfl ?_
        refine xo_rd (rd_pickt rfl rfl) rfl ?_
        refine xo_nil ?_
        refine xq_seq ?_
        refine xc_condt rfl ?_
        refine xc_seq ?_
        refine xc_region ?_
        refine xo_rd (rd_assign rfl) rfl ?_
        refine xo_rd (rd_assign rfl) rfl ?_
        refine xo_nil ?_
        refine xq_seq ?_
        refine xc_ret ?_
        refine xq_then_ret ?_
        refine xq_block_ret ?_
        refine xq_then_ret ?_
        refine xq_then_ret ?_
        refine xq_block_ret ?_
        refine xq_then_ret ?_
        rotate_left
        refine xo_grd rfl rfl (rd_fieldAddr rfl) rfl ?_
        refine xo_grd rfl rfl (rd_load1 rfl (Cl.o0 rfl)) rfl ?_
        refine xo_grd rfl rfl (rd_geq rfl rfl) rfl ?_
        refine xo_rd (rd_pickf rfl rfl) rfl ?_
        refine xo_nil ?_
        refine xq_seq ?_
        refine xc_dec rfl (fun hq3 => ?_) (fun hq3 => (by exfalso; omega))
        refine xc_seq ?_
        refine xc_region ?_
        refine xo_rd (rd_assign rfl) rfl ?_
        refine xo_rd (rd_assign rfl) rfl ?_
        refine xo_nil ?_
        refine xq_seq ?_
        refine xc_ret ?_
        refine xq_then_ret ?_
        refine xq_block_ret ?_
        refine xq_then_ret ?_
        refine xq_then_ret ?_
        refine xq_block_ret ?_
        refine xq_then_ret ?_
        rotate_left
      all_goals exact xq_sub ((List.sublist_append_right l L).trans (List.sublist_cons_self _ _)) (xq_ret2 (.inl rfl) Try.results55 rfl rfl ⟨none, 0, [], rfl, SlO.nil, rfl⟩)
  · focus
      refine xc_seq ?_
      refine xc_region ?_
      refine xo_rd (rd_lss rfl rfl) rfl ?_
      refine xo_nil ?_
      refine xq_seq ?_
      refine xc_seq ?_
      refine xc_dec rfl (fun h1 => (by exfalso; omega)) (fun h1 => ?_)
      refine xc_exit ?_
      refine xq_then_exit ?_
      refine xq_then_exit ?_
      refine xq_block_hit ?_
      refine xq_seq ?_
      refine xc_seq ?_
      refine xc_region ?_
      refine xo_rd (rd_move rfl) rfl ?_
      refine xo_rd (rd_move rfl) rfl ?_
      refine xo_rd (rd_len rfl) rfl ?_
      refine xo_rd (rd_leq rfl rfl) rfl ?_
      refine xo_rd (rd_assign rfl) rfl ?_
      refine xo_rd (rd_assign rfl) rfl ?_
      refine xo_nil ?_
      refine xq_seq ?_
      refine xc_ret ?_
    obtain rfl : i = n := by omega
    rw [List.take_of_length_le (by omega)] at hO
    have hall : xs.all Bk.fit = true := List.all_eq_true.2 fun x hx => by
      obtain ⟨j, hj, rfl⟩ := List.getElem_of_mem hx
      exact hok j hj (by omega)
    have e2 : blkR xs = (xs.flatMap bkL, decide ((i : Int) ≤ 31)) := by
      unfold blkR
      rw [if_pos hall]
      refine Prod.ext rfl ?_
      show decide (xs.length ≤ 31) = _
      rw [decide_eq_decide]; omega
    have hl : (xs.flatMap bkL).length = 24 * i := by rw [bkLs_len, hx]
    rw [e2]
    refine xq_ret2 (.inl rfl) Try.results55 rfl rfl ⟨s, k, l, ?_, by dsimp only; rw [hl]; exact hO, rfl⟩
    dsimp only; rw [hl]
end Go.Proofs.Ytohlaabclifbfaa.X
/-
  What is told is put: walks of my own.
-/
namespace Go.Proofs.Ytohlaabclifbfaa.X
open Go Go.RowKit
set_option linter.unusedVariables false
set_option linter.unusedSimpArgs false
theorem perm_in2 {a b : Blk} (l R : List Blk) : (l ++ (a :: b :: R)).Perm (a :: b :: (l ++ R)) := (by classical exact List.perm_iff_count.2 fun a => by simp only [List.append_eq, List.count_append, List.count_cons, List.count_nil, List.cons_append, List.nil_append, List.flatMap_append, List.flatMap_cons, List.flatMap_nil, List.append_nil]; omega)
theorem perm_in3 {a b c : Blk} (l R : List Blk) : (l ++ (a :: b :: c :: R)).Perm (a :: b :: c :: (l ++ R)) := (by classical exact List.perm_iff_count.2 fun a => by simp only [List.append_eq, List.count_append, List.count_cons, List.count_nil, List.cons_append, List.nil_append, List.flatMap_append, List.flatMap_cons, List.flatMap_nil, List.append_nil]; omega)
/-- What a packet is put as. -/
def PuM (L : List Blk) (z : Pc × Int) (v : Value) (L' : List Blk) : Prop :=
  ∃ x : Pb, v = .tuple #[.agg x.enc.toArray, .int .i64 z.2] ∧ x.q = z.1 ∧ x.Ok ∧ L' = x.l ++ L
theorem PuM.err {L : List Blk} (e : Int) : PuM L (.zero, e) (.tuple #[.agg (Pb.enc ⟨.zero, none, 0, []⟩).toArray, .int .i64 e]) L := ⟨⟨.zero, none, 0, []⟩, rfl, rfl, SlO.nil, rfl⟩
structure Sn where
  ss : Int
  nt : Int
  rt : Int
  pk : Int
  oc : Int
  bl : List Bk
structure Sn.Rg (x : Sn) : Prop where
  ss : U4 x.ss
  nt : 0 ≤ x.nt ∧ x.nt ≤ 18446744073709551615
  rt : U4 x.rt
  pk : U4 x.pk
  oc : U4 x.oc
  bl : ∀ b, b ∈ x.bl → b.Rg
def Sn.enc (x : Sn) (v : Value) : List Value := [.int .u32 x.ss, .int .u64 x.nt, .int .u32 x.rt, .int .u32 x.pk, .int .u32 x.oc, v]
def Sn.nums (x : Sn) : List Int := [x.ss, x.nt / 4294967296, x.nt % 4294967296, x.rt, x.pk, x.oc]
def sndR (x : Sn) : Pc × Int := if (blkR x.bl).2 then (⟨x.bl.length, 200, x.nums.flatMap be4 ++ x.bl.flatMap bkL, 0⟩, 0) else (.zero, 2)
def rcvR (ss : Int) (bl : List Bk) : Pc × Int := if (blkR bl).2 then (⟨bl.length, 201, [ss].flatMap be4 ++ bl.flatMap bkL, 0⟩, 0) else (.zero, 2)
theorem blkR_ok {bl : List Bk} (h : (blkR bl).2 = true) : bl.length ≤ 31 ∧ (blkR bl).1 = bl.flatMap bkL ∧ ∀ b, b ∈ bl → b.fit = true := by
  unfold blkR at h ⊢
  by_cases ha : bl.all Bk.fit = true
  · rw [if_pos ha] at h ⊢
    exact ⟨of_decide_eq_true h, rfl, List.all_eq_true.1 ha⟩
  · rw [if_neg ha] at h; cases h
theorem xf_blocks2 {W : World} {L : List Blk} (p : Option Addr) (n c : Nat) (xs : List Bk) (out : List Int) (ok : Bool) (hb : blkR xs = (out, ok)) (hx : xs.length = n) (hr : Rs W L p (xs.flatMap Bk.enc)) (hg : ∀ x, x ∈ xs → x.Rg) (hn : n ≤ 1000000) :
    XF Try.prog W 55 #[.slice p n c] L (fun v L' => ∃ s k l, v = .tuple #[.slice s out.length k, .bool ok] ∧ SlO 1 5 (.slice s out.length k) out.length (ints .u8 out) l ∧ L' = l ++ L) := by
  have := xf_blocks p n c xs hx hr hg hn
  rwa [hb] at this
set_option maxHeartbeats 4000000 in
theorem xf_receiver {W : World} {L : List Blk} (ss : Int) (hs : U4 ss) (p : Option Addr) (n c : Nat) (xs : List Bk) (hx : xs.length = n) (hr : Rs W L p (xs.flatMap Bk.enc)) (hg : ∀ x, x ∈ xs → x.Rg) (hn : n ≤ 1000000) :
    XF Try.prog W 25 #[.agg #[.int .u32 ss, .slice p n c]] L (PuM L (rcvR ss xs)) := by
  refine xf_enter (args := [_]) Try.func25 rfl Try.ntmps25 rfl ?_
  obtain ⟨⟨out, ok⟩, hb⟩ : ∃ z, blkR xs = z := ⟨_, rfl⟩
  have hbo := blkR_ok (bl := xs)
  rw [hb] at hbo
  dsimp only at hbo
  unfold rcvR
  rw [hb]
  dsimp only
  have hu : ∀ z, z ∈ [ss] → U4 z := fun z hz => by rw [List.mem_singleton.1 hz]; exact hs
  cases ok with
  | false =>
    rw [if_neg (by decide)]
    focus
      refine xc_seq ?_
      refine xc_region ?_
      refine xo_ef rfl (ef_box rfl fun r1 => ?_)
      refine xo_ef rfl (ef_alloc fun r2 => ?_)
      refine xo_rd (rd_assign rfl) rfl ?_
      refine xo_nil ?_
      refine xq_seq ?_
      refine xc_seq ?_
      refine xc_region ?_
      refine xo_rd (rd_fieldAddr rfl) rfl ?_
      refine xo_rd (rd_load1 rfl (Cl.o1 rfl)) rfl ?_
      refine xo_ef rfl (ef_call rfl (XF.mono (xf_blocks2 p n c xs out _ hb hx (hr.mono (by intro z hz; simp [hz])) hg hn) ?_))
      rintro v L' ⟨s, k, lb, rfl, hO, rfl⟩
      refine xo_perm (perm_in2 lb L) ?_
      refine xo_rd (rd_move rfl) rfl ?_
      refine xo_rd (rd_extract rfl rfl) rfl ?_
      refine xo_rd (rd_extract rfl rfl) rfl ?_
      refine xo_rd (rd_assign rfl) rfl ?_
      refine xo_rd (rd_assign rfl) rfl ?_
      refine xo_nil ?_
      refine xq_seq ?_
      refine xc_seq ?_
      refine xc_seq ?_
      refine xc_region ?_
      refine xo_rd (rd_move rfl) rfl ?_
      refine xo_rd (rd_not rfl) rfl ?_
      refine xo_nil ?_
      refine xq_seq ?_
      refine xc_condt rfl ?_
      refine xc_seq ?_
      refine xc_region ?_
      refine xo_rd (rd_build rfl rfl rfl) rfl ?_
      refine xo_ef rfl (ef_storeB [] _ rfl rfl (by first | rfl | assumption) rfl rfl rfl ?_)
      refine xo_rd (rd_assign rfl) rfl ?_
      refine xo_nil ?_
      refine xq_seq ?_
      refine xc_ret ?_
      refine xq_then_ret ?_
    exact xq_retB2 (.inl rfl) Try.results25 rfl rfl Kn.o0 rfl ((List.sublist_append_right lb L).trans ((List.sublist_cons_self _ _).trans (List.sublist_cons_self _ _))) (PuM.err 2)
  | true =>
    obtain ⟨h31, ho, hfit⟩ := hbo rfl
    rw [if_pos rfl]
    have hol : out.length = 24 * n := by rw [ho, bkLs_len, hx]
    focus
      refine xc_seq ?_
      refine xc_region ?_
      refine xo_ef rfl (ef_box rfl fun r1 => ?_)
      refine xo_ef rfl (ef_alloc fun r2 => ?_)
      refine xo_rd (rd_assign rfl) rfl ?_
      refine xo_nil ?_
      refine xq_seq ?_
      refine xc_seq ?_
      refine xc_region ?_
      refine xo_rd (rd_fieldAddr rfl) rfl ?_
      refine xo_rd (rd_load1 rfl (Cl.o1 rfl)) rfl ?_
      refine xo_ef rfl (ef_call rfl (XF.mono (xf_blocks2 p n c xs out _ hb hx (hr.mono (by intro z hz; simp [hz])) hg hn) ?_))
      rintro v L' ⟨s, k, lb, rfl, hO, rfl⟩
      refine xo_perm (perm_in2 lb L) ?_
      refine xo_rd (rd_move rfl) rfl ?_
      refine xo_rd (rd_extract rfl rfl) rfl ?_
      refine xo_rd (rd_extract rfl rfl) rfl ?_
      refine xo_rd (rd_assign rfl) rfl ?_
      refine xo_rd (rd_assign rfl) rfl ?_
      refine xo_nil ?_
      refine xq_seq ?_
      refine xc_seq ?_
      refine xc_seq ?_
      refine xc_region ?_
      refine xo_rd (rd_move rfl) rfl ?_
      refine xo_rd (rd_not rfl) rfl ?_
      refine xo_nil ?_
      refine xq_seq ?_
      refine xc_condf rfl ?_
      refine xc_skip ?_
      refine xq_seq ?_
      refine xc_seq ?_
      refine xc_drawM [0, 1, 2, 4, 0, 16, 32, 64, 0, 384, 520, 2047, 4095] [0, 1, 2, 4, 0, 16, 32, 64, 0, 384, 520, 2047, 4095] ([(r1, .cells #[.int .u32 ss, .slice p n c] 60 (0, 0))]) (by kernel_rfl) (by kernel_rfl) (by kernel_rfl) ?_
      refine xm_take 0 (m' := 1) rfl (by kernel_rfl) (by first | exact Sb.refl | exact Sb.nil | (repeat (first | exact Sb.nil | exact Sb.refl | exact Sb.app0 | apply Sb.keep | apply Sb.keepApp | apply Sb.cons | apply Sb.app))) (rd_fieldAddr rfl) rfl (by kernel_rfl) ?_
      refine xm_take 1 (m' := 3) rfl (by kernel_rfl) (by first | exact Sb.refl | exact Sb.nil | (repeat (first | exact Sb.nil | exact Sb.refl | exact Sb.app0 | apply Sb.keep | apply Sb.keepApp | apply Sb.cons | apply Sb.app))) (rd_load1 rfl (Cl.o0 rfl)) rfl (by kernel_rfl) ?_
      refine xm_take 2 (m' := 7) rfl (by kernel_rfl) (by first | exact Sb.refl | exact Sb.nil | (repeat (first | exact Sb.nil | exact Sb.refl | exact Sb.app0 | apply Sb.keep | apply Sb.keepApp | apply Sb.cons | apply Sb.app))) (rd_len rfl) rfl (by kernel_rfl) ?_
      refine xm_take 3 (m' := 15) rfl (by kernel_rfl) (by first | exact Sb.refl | exact Sb.nil | (repeat (first | exact Sb.nil | exact Sb.refl | exact Sb.app0 | apply Sb.keep | apply Sb.keepApp | apply Sb.cons | apply Sb.app))) (rd_convn rfl (by omega) (by omega)) rfl (by kernel_rfl) ?_
      refine xm_take 4 (m' := 31) rfl (by kernel_rfl) (by first | exact Sb.refl | exact Sb.nil | (repeat (first | exact Sb.nil | exact Sb.refl | exact Sb.app0 | apply Sb.keep | apply Sb.keepApp | apply Sb.cons | apply Sb.app))) (rd_fieldAddr rfl) rfl (by kernel_rfl) ?_
      refine xm_take 5 (m' := 63) rfl (by kernel_rfl) (by first | exact Sb.refl | exact Sb.nil | (repeat (first | exact Sb.nil | exact Sb.refl | exact Sb.app0 | apply Sb.keep | apply Sb.keepApp | apply Sb.cons | apply Sb.app))) (rd_load1 rfl (Cl.o0 rfl)) rfl (by kernel_rfl) ?_
      refine xm_take 8 (m' := 319) rfl (by kernel_rfl) (by first | exact Sb.refl | exact Sb.nil | (repeat (first | exact Sb.nil | exact Sb.refl | exact Sb.app0 | apply Sb.keep | apply Sb.keepApp | apply Sb.cons | apply Sb.app))) (rd_move rfl) rfl (by kernel_rfl) ?_
      refine xm_one 6 (m' := 383) rfl (by kernel_rfl) rfl (by kernel_rfl) (ef_slice1 rfl rfl rfl fun r21 => ?_)
      refine ⟨(by first | exact Sb.refl | exact Sb.nil | (repeat (first | exact Sb.nil | exact Sb.refl | exact Sb.app0 | apply Sb.keep | apply Sb.keepApp | apply Sb.cons | apply Sb.app))), ?_⟩
      refine xm_one 7 (m' := 511) rfl (by kernel_rfl) rfl (by kernel_rfl) (ef_call rfl (XF.mono (xf_long (some ⟨r21, 0, none⟩) 1 1 [ss] rfl (Rs.fresh (List.Mem.head _)) hu (by decide)) ?_))
      rintro v L' ⟨s2, k2, l2, rfl, hO2, rfl⟩
      refine xmx_perm (perm_in3 l2 (lb ++ L)) ?_
      refine ⟨(by first | exact Sb.refl | exact Sb.nil | (repeat (first | exact Sb.nil | exact Sb.refl | exact Sb.app0 | apply Sb.keep | apply Sb.keepApp | apply Sb.cons | apply Sb.app))), ?_⟩
      refine xm_one 9 (m' := 1023) rfl (by kernel_rfl) rfl (by kernel_rfl) (ef_appendS [_, _, _] (lb ++ L) l2 (news := ints .u8 out) rfl rfl hO2 rfl (hO.rs (by intro z hz; simp [hz])) (by rw [ints_len, Nat.mul_one]) (ints_one _ _) (by decide) (by omega) (by omega) fun s3 k3 l3 hO3 hk3 => ?_)
      refine ⟨(by first | exact Sb.refl | exact Sb.nil | (repeat (first | exact Sb.nil | exact Sb.refl | exact Sb.app0 | apply Sb.keep | apply Sb.keepApp | apply Sb.cons | apply Sb.app))), ?_⟩
      refine xm_take 10 (m' := 2047) rfl (by kernel_rfl) (by first | exact Sb.refl | exact Sb.nil | (repeat (first | exact Sb.nil | exact Sb.refl | exact Sb.app0 | apply Sb.keep | apply Sb.keepApp | apply Sb.cons | apply Sb.app))) (rd_build rfl rfl rfl) rfl (by kernel_rfl) ?_
      refine xm_one 11 (m' := 4095) rfl (by kernel_rfl) rfl (by kernel_rfl) (ef_storeB [_] _ rfl rfl (by first | rfl | assumption) rfl rfl rfl ?_)
      refine ⟨(by first | exact Sb.refl | exact Sb.nil | (repeat (first | exact Sb.nil | exact Sb.refl | exact Sb.app0 | apply Sb.keep | apply Sb.keepApp | apply Sb.cons | apply Sb.app))), ?_⟩
      refine xm_take 12 (m' := 8191) rfl (by kernel_rfl) (by first | exact Sb.refl | exact Sb.nil | (repeat (first | exact Sb.nil | exact Sb.refl | exact Sb.app0 | apply Sb.keep | apply Sb.keepApp | apply Sb.cons | apply Sb.app))) (rd_assign rfl) rfl (by kernel_rfl) ?_
      refine xm_done (by kernel_rfl) ?_
      refine xq_seq ?_
      refine xc_ret ?_
    have hbl : ([ss].flatMap be4 ++ xs.flatMap bkL).length = 4 * 1 + out.length := by rw [List.length_append, flat4_len, ho]; rfl
    refine xq_retB2 (.inl rfl) Try.results25 rfl rfl Kn.o1 rfl ((List.Sublist.append_left (List.sublist_append_right lb L) l3).trans ((List.sublist_cons_self _ _).trans ((List.sublist_cons_self _ _).trans (List.sublist_cons_self _ _)))) ⟨⟨⟨xs.length, 201, [ss].flatMap be4 ++ xs.flatMap bkL, 0⟩, s3, k3, l3⟩, ?_, rfl, ?_, rfl⟩
    · unfold Pb.enc Pc.enc; dsimp only; rw [hbl, hx]; rfl
    · unfold Pb.Ok; dsimp only; rw [hbl, ints_app, ← ho]; exact hO3
theorem Sn.nums_u4 {x : Sn} (h : x.Rg) : ∀ z, z ∈ x.nums → U4 z := by
  have h1 := h.ss; have h2 := h.nt; have h3 := h.rt; have h4 := h.pk; have h5 := h.oc
  intro z hz
  simp only [Sn.nums, List.mem_cons, List.not_mem_nil, or_false] at hz
  rcases hz with rfl | rfl | rfl | rfl | rfl | rfl
  · exact h1
  · unfold U4; omega
  · unfold U4; omega
  · exact h3
  · exact h4
  · exact h5
set_option maxHeartbeats 4000000 in
theorem xf_sender {W : World} {L : List Blk} (x : Sn) (hx : x.Rg) (p : Option Addr) (c : Nat) (hr : Rs W L p (x.bl.flatMap Bk.enc)) (hn : x.bl.length ≤ 1000000) :
    XF Try.prog W 24 #[.agg (x.enc (.slice p x.bl.length c)).toArray] L (PuM L (sndR x)) := by
  refine xf_enter (args := [_]) Try.func24 rfl Try.ntmps24 rfl ?_
  have hu := Sn.nums_u4 hx
  have g1 := hx.ss; have g2 := hx.nt; have g3 := hx.rt; have g4 := hx.pk; have g5 := hx.oc; have hg := hx.bl
  obtain ⟨ss, nt, rt, pk, oc, xs⟩ := x
  dsimp only [U4, Sn.nums] at hr hn g1 g2 g3 g4 g5 hg hu
  obtain ⟨⟨out, ok⟩, hb⟩ : ∃ z, blkR xs = z := ⟨_, rfl⟩
  have hbo := blkR_ok (bl := xs)
  rw [hb] at hbo
  dsimp only at hbo
  unfold sndR Sn.enc Sn.nums
  dsimp only
  rw [hb]
  dsimp only
  cases ok with
  | false =>
    rw [if_neg (by decide)]
    focus
      refine xc_seq ?_
      refine xc_region ?_
      refine xo_ef rfl (ef_box rfl fun r1 => ?_)
      refine xo_ef rfl (ef_alloc fun r2 => ?_)
      refine xo_rd (rd_assign rfl) rfl ?_
      refine xo_nil ?_
      refine xq_seq ?_
      refine xc_seq ?_
      refine xc_region ?_
      refine xo_rd (rd_fieldAddr rfl) rfl ?_
      refine xo_rd (rd_load1 rfl (Cl.o1 rfl)) rfl ?_
      refine xo_ef rfl (ef_call rfl (XF.mono (xf_blocks2 p xs.length c xs out _ hb rfl (hr.mono (by intro z hz; simp [hz])) hg hn) ?_))
      rintro v L' ⟨s, k, lb, rfl, hO, rfl⟩
      refine xo_perm (perm_in2 lb L) ?_
      refine xo_rd (rd_move rfl) rfl ?_
      refine xo_rd (rd_extract rfl rfl) rfl ?_
      refine xo_rd (rd_extract rfl rfl) rfl ?_
      refine xo_rd (rd_assign rfl) rfl ?_
      refine xo_rd (rd_assign rfl) rfl ?_
      refine xo_nil ?_
      refine xq_seq ?_
      refine xc_seq ?_
      refine xc_seq ?_
      refine xc_region ?_
      refine xo_rd (rd_move rfl) rfl ?_
      refine xo_rd (rd_not rfl) rfl ?_
      refine xo_nil ?_
      refine xq_seq ?_
      refine xc_condt rfl ?_
      refine xc_seq ?_
      refine xc_region ?_
      refine xo_rd (rd_build rfl rfl rfl) rfl ?_
      refine xo_ef rfl (ef_storeB [] _ rfl rfl (by first | rfl | assumption) rfl rfl rfl ?_)
      refine xo_rd (rd_assign rfl) rfl ?_
      refine xo_nil ?_
      refine xq_seq ?_
      refine xc_ret ?_
      refine xq_then_ret ?_
    exact xq_retB2 (.inl rfl) Try.results24 rfl rfl Kn.o0 rfl ((List.sublist_append_right lb L).trans ((List.sublist_cons_self _ _).trans (List.sublist_cons_self _ _))) (PuM.err 2)
  | true =>
    obtain ⟨h31, ho, hfit⟩ := hbo rfl
    rw [if_pos rfl]
    have hol : out.length = 24 * xs.length := by rw [ho, bkLs_len]
    focus
      refine xc_seq ?_
      refine xc_region ?_
      refine xo_ef rfl (ef_box rfl fun r1 => ?_)
      refine xo_ef rfl (ef_alloc fun r2 => ?_)
      refine xo_rd (rd_assign rfl) rfl ?_
      refine xo_nil ?_
      refine xq_seq ?_
      refine xc_seq ?_
      refine xc_region ?_
      refine xo_rd (rd_fieldAddr rfl) rfl ?_
      refine xo_rd (rd_load1 rfl (Cl.o1 rfl)) rfl ?_
      refine xo_ef rfl (ef_call rfl (XF.mono (xf_blocks2 p xs.length c xs out _ hb rfl (hr.mono (by intro z hz; simp [hz])) hg hn) ?_))
      rintro v L' ⟨s, k, lb, rfl, hO, rfl⟩
      refine xo_perm (perm_in2 lb L) ?_
      refine xo_rd (rd_move rfl) rfl ?_
      refine xo_rd (rd_extract rfl rfl) rfl ?_
      refine xo_rd (rd_extract rfl rfl) rfl ?_
      refine xo_rd (rd_assign rfl) rfl ?_
      refine xo_rd (rd_assign rfl) rfl ?_
      refine xo_nil ?_
      refine xq_seq ?_
      refine xc_seq ?_
      refine xc_seq ?_
      refine xc_region ?_
      refine xo_rd (rd_move rfl) rfl ?_
      refine xo_rd (rd_not rfl) rfl ?_
      refine xo_nil ?_
      refine xq_seq ?_
      refine xc_condf rfl ?_
      refine xc_skip ?_
      refine xq_seq ?_
      refine xc_seq ?_
      refine xc_region ?_
      refine xo_rd (rd_fieldAddr rfl) rfl ?_
      refine xo_rd (rd_load1 rfl (Cl.o1 rfl)) rfl ?_
      refine xo_rd (rd_fieldAddr rfl) rfl ?_
      refine xo_rd (rd_load1 rfl (Cl.o1 rfl)) rfl ?_
      refine xo_rd (rd_cast (v' := .int .u64 (nt / 4294967296)) (rd_shr rfl rfl (by decide) (by decide)) rfl) rfl ?_
      refine xo_rd (rd_convn rfl (by omega) (by omega)) rfl ?_
      refine xo_rd (rd_fieldAddr rfl) rfl ?_
      refine xo_rd (rd_load1 rfl (Cl.o1 rfl)) rfl ?_
      refine xo_rd (rd_cast (v' := .int .u32 (nt % 4294967296)) (rd_conv rfl) (congrArg (Value.int .u32) (wrap32 nt))) rfl ?_
      refine xo_rd (rd_fieldAddr rfl) rfl ?_
      refine xo_rd (rd_load1 rfl (Cl.o1 rfl)) rfl ?_
      refine xo_rd (rd_fieldAddr rfl) rfl ?_
      refine xo_rd (rd_load1 rfl (Cl.o1 rfl)) rfl ?_
      refine xo_rd (rd_fieldAddr rfl) rfl ?_
      refine xo_rd (rd_load1 rfl (Cl.o1 rfl)) rfl ?_
      refine xo_ef rfl (ef_buildL (T := 55) (len := 6) (s := 1) (cells := (ints .u32 [ss, nt / 4294967296, nt % 4294967296, rt, pk, oc]).toArray) rfl (by decide) (by decide) (by kernel_rfl) fun r31 => ?_)
      refine xo_ef rfl (ef_call rfl (XF.mono (xf_long (some ⟨r31, 0, none⟩) 6 6 [ss, nt / 4294967296, nt % 4294967296, rt, pk, oc] rfl (Rs.fresh (List.Mem.head _)) hu (by decide)) ?_))
      rintro v L' ⟨s2, k2, l2, rfl, hO2, rfl⟩
      refine xo_perm (perm_in3 l2 (lb ++ L)) ?_
      refine xo_rd (rd_assign rfl) rfl ?_
      refine xo_nil ?_
      refine xq_seq ?_
      refine xc_seq ?_
      refine xc_drawM [0, 1, 2, 4, 0, 0, 48, 72, 255, 511] [0, 1, 2, 4, 0, 0, 48, 72, 255, 511] ([(r1, .cells #[.int .u32 ss, .int .u64 nt, .int .u32 rt, .int .u32 pk, .int .u32 oc, .slice p xs.length c] 53 (0, 0))]) (by kernel_rfl) (by kernel_rfl) (by kernel_rfl) ?_
      refine xm_take 0 (m' := 1) rfl (by kernel_rfl) (by first | exact Sb.refl | exact Sb.nil | (repeat (first | exact Sb.nil | exact Sb.refl | exact Sb.app0 | apply Sb.keep | apply Sb.keepApp | apply Sb.cons | apply Sb.app))) (rd_fieldAddr rfl) rfl (by kernel_rfl) ?_
      refine xm_take 1 (m' := 3) rfl (by kernel_rfl) (by first | exact Sb.refl | exact Sb.nil | (repeat (first | exact Sb.nil | exact Sb.refl | exact Sb.app0 | apply Sb.keep | apply Sb.keepApp | apply Sb.cons | apply Sb.app))) (rd_load1 rfl (Cl.o0 rfl)) rfl (by kernel_rfl) ?_
      refine xm_take 2 (m' := 7) rfl (by kernel_rfl) (by first | exact Sb.refl | exact Sb.nil | (repeat (first | exact Sb.nil | exact Sb.refl | exact Sb.app0 | apply Sb.keep | apply Sb.keepApp | apply Sb.cons | apply Sb.app))) (rd_len rfl) rfl (by kernel_rfl) ?_
      refine xm_take 3 (m' := 15) rfl (by kernel_rfl) (by first | exact Sb.refl | exact Sb.nil | (repeat (first | exact Sb.nil | exact Sb.refl | exact Sb.app0 | apply Sb.keep | apply Sb.keepApp | apply Sb.cons | apply Sb.app))) (rd_convn rfl (by omega) (by omega)) rfl (by kernel_rfl) ?_
      refine xm_take 4 (m' := 31) rfl (by kernel_rfl) (by first | exact Sb.refl | exact Sb.nil | (repeat (first | exact Sb.nil | exact Sb.refl | exact Sb.app0 | apply Sb.keep | apply Sb.keepApp | apply Sb.cons | apply Sb.app))) (rd_move rfl) rfl (by kernel_rfl) ?_
      refine xm_take 5 (m' := 63) rfl (by kernel_rfl) (by first | exact Sb.refl | exact Sb.nil | (repeat (first | exact Sb.nil | exact Sb.refl | exact Sb.app0 | apply Sb.keep | apply Sb.keepApp | apply Sb.cons | apply Sb.app))) (rd_move rfl) rfl (by kernel_rfl) ?_
      refine xm_one 6 (m' := 127) rfl (by kernel_rfl) rfl (by kernel_rfl) (ef_appendS [_, _, _] (lb ++ L) l2 (news := ints .u8 out) rfl rfl hO2 rfl (hO.rs (by intro z hz; simp [hz])) (by rw [ints_len, Nat.mul_one]) (ints_one _ _) (by decide) (by omega) (by omega) fun s3 k3 l3 hO3 hk3 => ?_)
      refine ⟨(by first | exact Sb.refl | exact Sb.nil | (repeat (first | exact Sb.nil | exact Sb.refl | exact Sb.app0 | apply Sb.keep | apply Sb.keepApp | apply Sb.cons | apply Sb.app))), ?_⟩
      refine xm_take 7 (m' := 255) rfl (by kernel_rfl) (by first | exact Sb.refl | exact Sb.nil | (repeat (first | exact Sb.nil | exact Sb.refl | exact Sb.app0 | apply Sb.keep | apply Sb.keepApp | apply Sb.cons | apply Sb.app))) (rd_build rfl rfl rfl) rfl (by kernel_rfl) ?_
      refine xm_one 8 (m' := 511) rfl (by kernel_rfl) rfl (by kernel_rfl) (ef_storeB [_] _ rfl rfl (by first | rfl | assumption) rfl rfl rfl ?_)
      refine ⟨(by first | exact Sb.refl | exact Sb.nil | (repeat (first | exact Sb.nil | exact Sb.refl | exact Sb.app0 | apply Sb.keep | apply Sb.keepApp | apply Sb.cons | apply Sb.app))), ?_⟩
      refine xm_take 9 (m' := 1023) rfl (by kernel_rfl) (by first | exact Sb.refl | exact Sb.nil | (repeat (first | exact Sb.nil | exact Sb.refl | exact Sb.app0 | apply Sb.keep | apply Sb.keepApp | apply Sb.cons | apply Sb.app))) (rd_assign rfl) rfl (by kernel_rfl) ?_
      refine xm_done (by kernel_rfl) ?_
      refine xq_seq ?_
      refine xc_ret ?_
    have hbl : ([ss, nt / 4294967296, nt % 4294967296, rt, pk, oc].flatMap be4 ++ xs.flatMap bkL).length = 4 * 6 + out.length := by rw [List.length_append, flat4_len, ho]; rfl
    all_goals refine xq_retB2 (.inl rfl) Try.results24 rfl rfl Kn.o1 rfl ((List.Sublist.append_left (List.sublist_append_right lb L) l3).trans ((List.sublist_cons_self _ _).trans ((List.sublist_cons_self _ _).trans (List.sublist_cons_self _ _)))) ⟨⟨⟨xs.length, 200, [ss, nt / 4294967296, nt % 4294967296, rt, pk, oc].flatMap be4 ++ xs.flatMap bkL, 0⟩, s3, k3, l3⟩, ?_, rfl, ?_, rfl⟩
    all_goals first | (unfold Pb.enc Pc.enc; dsimp only; rw [hbl]; rfl) | (unfold Pb.Ok; dsimp only; rw [hbl, ints_app, ← ho]; exact hO3)
end Go.Proofs.Ytohlaabclifbfaa.X
/-
  Words of my own for walks, twenty-second part: a text's bytes that are appended. No condition; generic over the program.
-/
namespace Go.Proofs.Ytohlaabclifbfaa.X
open Go Go.RowKit
set_option linter.unusedVariables false
set_option linter.unusedSimpArgs false
theorem strCells_sbs (s : ByteArray) : Lib.strCells s = ints .u8 (sbs s) := by simp [Lib.strCells, ints, sbs]
section
variable {P : Program} {W : World} {n : Nat} {L : List Blk} {E : List (Nat × Value)} {d : Option Nat} {t : TypeId} {pos : String} {after : Array Edge} {g : Option (Nat × Bool)} {K : Value → List Blk → Prop}
/-- A text's bytes are appended to an owned slice of bytes. -/
theorem ef_appendT (A R l : List Blk) {T T2 e bt : Nat} {z v0 : Value} {x y : Operand} {v : Value} {m : Nat} {s : ByteArray} {xs : List Value} [hT : Sl P T e] [hT2 : St P T2] [hI : Inf P e z 1 bt]
    (hx : ev E x = some v) (hy : ev E y = some (.string s)) (hO : SlO 1 e v m xs l) (hL : L = A ++ (l ++ R)) (hzc : z.cells = #[v0])
    (hfit : (m + s.size) * bt ≤ 140737488355328) (hsm : m + s.size ≤ 9223372036854775807) (hK : ∀ q c' l', SlO 1 e (.slice q (m + s.size) c') (m + s.size) (xs ++ ints .u8 (sbs s)) l' → m + s.size ≤ c' → K (.slice q (m + s.size) c') (A ++ (l' ++ R))) :
    EF P W n L E ⟨d, .call ⟨.builtin .append, #[x, y], #[T, T2]⟩, t, pos, after, g⟩ K := by
  rw [← strCells_sbs] at hK
  obtain ⟨p0, c0, rfl, hO, hmc0⟩ := hO.opn
  refine ⟨fun a w ha hw => ?_⟩
  have hrun : (execOp a.eval ⟨d, .call ⟨.builtin .append, #[x, y], #[T, T2]⟩, t, pos, after, g⟩).run P w = ((Builtin.append_ #[T, T2] t #[.slice p0 m c0, .string s]).run P w).andThen fun v w => .ok (.value v) w := by
    simp [execOp, resolve, invoke, builtin, ha.eval hx, ha.eval hy]
  rw [hrun]
  obtain ⟨i, hi1, hi2, hi3, hi4, hzz⟩ := hI.h
  subst hi4
  have hkb : s.size * i.bytes ≤ 281474976710656 := by
    have : s.size * i.bytes ≤ (m + s.size) * i.bytes := Nat.mul_le_mul_right _ (by omega)
    omega
  have hsl := Lib.strCells_length s
  by_cases hk0 : s.size = 0
  · have hn : Lib.strCells s = [] := List.eq_nil_of_length_eq_zero (by rw [hsl]; exact hk0)
    have hr : (Builtin.append_ #[T, T2] t #[.slice p0 m c0, .string s]).run P w = .ok (.slice p0 m c0) w := by
      have hf := Lib.run_firstCells_string (P := P) w 1 s
      rw [hk0] at hf
      cases p0 <;> simp [Builtin.append_, run_underlying hT.h, run_underlying hT2.h, sizeOf, typeInfo, hi1, hi3, Builtin.lenOf, hk0, hf, hmc0, hn, storeCells]
    rw [hr]
    refine ⟨_, hw, ?_⟩
    rw [hL]
    have := hK p0 c0 l (by rw [hn, hk0]; simpa using hO) (by omega)
    rwa [hk0] at this
  · rcases hO with ⟨he, rfl, rfl, rfl⟩ | ⟨b, cs, cap, he, rfl, hmc, hcs, htk⟩
    · simp only [Value.slice.injEq] at he
      obtain ⟨rfl, _, rfl⟩ := he
      have hr := run_append_nil_string (P := P) w T T2 t e i z hT.h hT2.h hi1 hi2 s (by omega) (by omega) hkb
      have e1 : (s.data.map fun b => Value.int .u8 b.toNat) = (Lib.strCells s).toArray := by
        apply Array.ext'
        simp [Lib.strCells]
      rw [e1] at hr
      rw [hr]
      have hge := grownCap_ge w s.size 0 e
      have hcap : 0 + s.size ≤ grownCap w s.size 0 e := by omega
      have hK' := hK (some ⟨w.heap.size, 0, none⟩) (grownCap w s.size 0 e) [(w.heap.size, .cells ((Lib.strCells s).toArray ++ Builtin.zeroCells z.cells (grownCap w s.size 0 e - s.size)) e (0, 0))] (.inr ⟨w.heap.size, _, grownCap w s.size 0 e, rfl, rfl, hcap, ?_, ?_⟩) hcap
      · refine ⟨_, (hw.drew.alloc _).perm ?_, by rw [Nat.zero_add] at hK'; exact hK'⟩
        rw [hL]
        simp only [List.nil_append, List.singleton_append]
        exact List.perm_middle.symm
      · simp only [Array.size_append, size_zeroCells, hzz, Nat.mul_one, List.size_toArray, hsl]
        omega
      · rw [hzc, zeros_one]
        simp only [Array.toList_append, Nat.zero_add, Nat.mul_one, List.nil_append]
        rw [← hsl]
        exact List.take_left
    · simp only [Value.slice.injEq] at he
      obtain ⟨rfl, _, rfl⟩ := he
      rw [Nat.mul_one] at hcs htk
      have hw2 := hw
      rw [hL] at hw2
      have hlx : xs.length = m := by rw [← htk, List.length_take, Array.length_toList]; omega
      by_cases hroom : m + s.size ≤ c0
      · have hr := Lib.run_append_room_string (P := P) w T T2 t e i hT.h hT2.h hi1 hi3 b m c0 cs hw2.mid s hroom (by omega)
        rw [hr]
        have hK' := hK (some ⟨b, 0, none⟩) c0 [(b, .cells (cs.toList.take m ++ Lib.strCells s ++ cs.toList.drop (m + s.size)).toArray e (0, 0))] (.inr ⟨b, _, c0, rfl, rfl, hroom, ?_, ?_⟩) hroom
        · exact ⟨_, hw2.turnAt rfl rfl rfl (setRow_heap w b cs _ e (0, 0) hw2.mid) (fun q hq => setRow_other w b q _ hq), hK'⟩
        · simp only [List.size_toArray, List.length_append, List.length_take, List.length_drop, hsl, Array.length_toList, Nat.mul_one]
          omega
        · rw [htk, Nat.mul_one]
          have : m + s.size = (xs ++ Lib.strCells s).length := by simp [hlx, hsl]
          rw [this]
          exact List.take_left
      · have holds : ∀ j u, xs[j]? = some u → w.cell? ((⟨b, 0, none⟩ : Addr).add j) = some u := fun j u hj => by
          rw [add_zero']
          rw [← htk, List.getElem?_take] at hj
          split at hj
          · simp [World.cell?, hw2.mid]; simpa using hj
          · cases hj
        have hr := Lib.run_append_grow_string (P := P) w T T2 t e i z hT.h hT2.h hi1 hi2 ⟨b, 0, none⟩ m c0 xs (by rw [hi3]; omega) holds s (by omega) (by omega) (growslice_fits (by omega) hfit)
        rw [hr]
        have hge := grownCap_ge w (m + s.size) c0 e
        have hK' := hK (some ⟨w.heap.size, 0, none⟩) (grownCap w (m + s.size) c0 e) [(w.heap.size, .cells (xs.toArray ++ (Lib.strCells s).toArray ++ Builtin.zeroCells z.cells (grownCap w (m + s.size) c0 e - (m + s.size))) e (0, 0))] (.inr ⟨w.heap.size, _, grownCap w (m + s.size) c0 e, rfl, rfl, hge, ?_, ?_⟩) hge
        · refine ⟨_, ((hw2.drew.alloc _).sub (L' := (w.heap.size, .cells (xs.toArray ++ (Lib.strCells s).toArray ++ Builtin.zeroCells z.cells (grownCap w (m + s.size) c0 e - (m + s.size))) e (0, 0)) :: (A ++ R)) ?_).perm ?_, hK'⟩
          · refine List.Sublist.cons_cons _ ?_
            exact (List.Sublist.refl A).append (by simp)
          · simp only [List.singleton_append]
            exact List.perm_middle.symm
        · simp only [Array.size_append, List.size_toArray, size_zeroCells, hzz, hlx, hsl, Nat.mul_one]
          omega
        · rw [Nat.mul_one]
          have : m + s.size = (xs ++ Lib.strCells s).length := by simp [hlx, hsl]
          rw [this]
          simp only [Array.toList_append]
          exact List.take_left
end
end Go.Proofs.Ytohlaabclifbfaa.X
/-
  Chunks, and who goes, are put: walks of my own.
-/
namespace Go.Proofs.Ytohlaabclifbfaa.X
open Go Go.RowKit
set_option linter.unusedVariables false
set_option linter.unusedSimpArgs false
structure Ck where
  ss : Int
  nm : ByteArray
def Ck.enc (x : Ck) : List Value := [.int .u32 x.ss, .string x.nm]
theorem Ck.len (x : Ck) : x.enc.length = 2 := rfl
theorem Ck.one (x : Ck) : x.enc.all (·.oneCell') = true := rfl
def fil (b : List Int) : List Int := b ++ List.replicate ((4 - b.length % 4) % 4) 0
theorem fil_len (b : List Int) : (fil b).length = b.length + (4 - b.length % 4) % 4 := by unfold fil; simp
def nameL (nm : ByteArray) : List Int := if nm.size = 0 then [] else [1, (nm.size : Int)] ++ sbs nm
def chA (acc : List Int) (x : Ck) : List Int := fil (acc ++ [x.ss].flatMap be4 ++ nameL x.nm ++ [0])
def chunksL (l : List Ck) : List Int := l.foldl chA []
def putCh (l : List Ck) : Pc × Int := if l.any (fun x => decide (255 < x.nm.size)) then (.zero, 2) else if 31 < l.length then (.zero, 2) else (⟨l.length, 202, chunksL l, 0⟩, 0)
theorem nameL_len (nm : ByteArray) (h : nm.size ≤ 255) : (nameL nm).length ≤ 257 := by
  unfold nameL
  split
  · exact Nat.zero_le _
  · rw [List.length_append, sbs_len]; simp; omega
theorem chA_len (acc : List Int) (x : Ck) (h : x.nm.size ≤ 255) : (chA acc x).length ≤ acc.length + 300 := by
  unfold chA
  rw [fil_len]
  have := nameL_len x.nm h
  simp only [List.length_append, flat4_len, List.length_singleton] at *
  omega
theorem nm_size0 {nm : ByteArray} : nm.size = 0 ↔ nm = ⟨#[]⟩ := by
  constructor
  · intro h
    cases nm with
    | mk d =>
      have : d.size = 0 := h
      rw [Array.eq_empty_of_size_eq_zero this]
  · rintro rfl; rfl
theorem perm_in3' {a b c : Blk} (l l' R : List Blk) : (l ++ (a :: b :: c :: (l' ++ R))).Perm (a :: b :: c :: (l' ++ (l ++ R))) := (by classical exact List.perm_iff_count.2 fun a => by simp only [List.append_eq, List.count_append, List.count_cons, List.count_nil, List.cons_append, List.nil_append, List.flatMap_append, List.flatMap_cons, List.flatMap_nil, List.append_nil]; omega)
structure ChS where
  ys : List Int
  s : Option Addr
  k : Nat
  l : List Blk
set_option maxHeartbeats 8000000 in
theorem xf_putChunks {W : World} {L : List Blk} (p : Option Addr) (n c : Nat) (xs : List Ck) (hx : xs.length = n) (hr : Rs W L p (xs.flatMap Ck.enc)) (hg : ∀ x, x ∈ xs → U4 x.ss) (hn : n ≤ 1000000) :
    XF Try.prog W 26 #[.slice p n c] L (PuM L (putCh xs)) := by
  refine xf_enter (args := [_]) Try.func26 rfl Try.ntmps26 rfl ?_
  focus
    refine xc_seq ?_
    refine xc_region ?_
    refine xo_ef rfl (ef_alloc fun r2 => ?_)
    refine xo_rd (rd_assign rfl) rfl ?_
    refine xo_nil ?_
    refine xq_seq ?_
    refine xc_seq ?_
    refine xc_region ?_
    refine xo_rd (rd_assign rfl) rfl ?_
    refine xo_nil ?_
    refine xq_seq ?_
    refine xc_seq ?_
    refine xc_seq ?_
    refine xc_region ?_
    refine xo_rd (rd_move rfl) rfl ?_
    refine xo_rd (rd_len rfl) rfl ?_
    refine xo_rd (rd_move rfl) rfl ?_
    refine xo_nil ?_
    refine xq_seq ?_
    refine xc_block ?_
  refine xc_loopI (ι := LgS) (fun z => z.i ≤ n ∧ (∀ j (h : j < xs.length), j < z.i → xs[j].nm.size ≤ 255) ∧ ((xs.take z.i).foldl chA []).length ≤ 300 * z.i ∧ SlO 1 5 (.slice z.s ((xs.take z.i).foldl chA []).length z.k) ((xs.take z.i).foldl chA []).length (ints .u8 ((xs.take z.i).foldl chA [])) z.l) (fun z => n - z.i) (fun z => (r2, .cells #[.int .u8 0, .int .u8 0, .slice none 0 0, .int .u8 0] 35 (0, 0)) :: (z.l ++ L)) (fun z => [(0, .slice p n c), (2, .pointer (some ⟨r2, 0, none⟩)), (4, .slice z.s ((xs.take z.i).foldl chA []).length z.k), (7, .slice p n c), (8, .int .i64 n), (9, .int .i64 z.i)]) ⟨0, none, 0, []⟩ ⟨Nat.zero_le _, (fun j h hj => absurd hj (Nat.not_lt_zero _)), Nat.zero_le _, SlO.nil⟩ rfl (by repeat (first | exact keep_nil | refine keep_cons rfl ?_)) ?_
  rintro ⟨i, s, k, l⟩ ⟨hi, hok, hle, hO⟩
  dsimp only at hi hok hle hO ⊢
  by_cases hin : i < n
  · obtain ⟨b, o, hp, hc⟩ := hr.rows Ck.len (by decide) (by omega)
    subst hp
    have hci := hc i (by omega)
    have hgx := hg xs[i] (List.getElem_mem _)
    have e1 : (xs.take (i + 1)).foldl chA [] = chA ((xs.take i).foldl chA []) xs[i] := by rw [List.take_add_one, List.getElem?_eq_getElem (by omega), List.foldl_append]; rfl
    have hbad : 255 < xs[i].nm.size → putCh xs = (.zero, 2) := fun h => by
      unfold putCh
      rw [if_pos]
      exact List.any_eq_true.2 ⟨xs[i], List.getElem_mem _, decide_eq_true h⟩
    have hok' : xs[i].nm.size ≤ 255 → ∀ j (h : j < xs.length), j < i + 1 → xs[j].nm.size ≤ 255 := fun h j hj hji => by
      by_cases hji2 : j < i
      · exact hok j hj hji2
      · obtain rfl : j = i := by omega
        exact h
    have hcl := chA_len ((xs.take i).foldl chA []) xs[i]
    generalize (xs.take i).foldl chA [] = acc at *
    generalize xs[i] = x at *
    have hcI : ∀ L', (∀ z, z ∈ L → z ∈ L') → ∀ (j : Nat) (u : Value), x.enc[j]? = some u → Cl W L' b (o + (i : Int).toNat * 2 + j) u := fun L' h j u hj => (hci j u hj).mono h
    obtain ⟨ss, nm⟩ := x
    dsimp only [U4] at hgx hbad hok' hcl
    have hu : ∀ z, z ∈ [ss] → U4 z := fun z hz => by rw [List.mem_singleton.1 hz]; exact hgx
    by_cases hf : 255 < nm.size
    · rw [hbad hf]
      focus
        refine xc_seq ?_
        refine xc_region ?_
        refine xo_rd (rd_lss rfl rfl) rfl ?_
        refine xo_nil ?_
        refine xq_seq ?_
        refine xc_seq ?_
        refine xc_dec rfl (fun hq1 => ?_) (fun hq1 => (by exfalso; omega))
        refine xc_skip ?_
        refine xq_seq ?_
        refine xc_seq ?_
        refine xc_block ?_
        refine xc_seq ?_
        refine xc_region ?_
        refine xo_rd (rd_indexAddr rfl rfl (by omega) (by omega)) rfl ?_
        refine xo_rd (rd_loadA (vs := [Value.int .u32 ss, .string nm]) rfl rfl (hcI _ (by intro z hz; simp [hz]))) rfl ?_
        refine xo_ef rfl (ef_alloc fun r6 => ?_)
        refine xo_ef rfl (ef_storeB [] _ rfl rfl (by first | rfl | assumption) rfl rfl rfl ?_)
        refine xo_nil ?_
        refine xq_seq ?_
        refine xc_seq ?_
        refine xc_seq ?_
        refine xc_region ?_
        refine xo_rd (rd_fieldAddr rfl) rfl ?_
        refine xo_rd (rd_load1 rfl (Cl.o0 rfl)) rfl ?_
        refine xo_rd (rd_lenStr rfl) rfl ?_
        refine xo_rd (rd_gtr rfl rfl) rfl ?_
        refine xo_nil ?_
        refine xq_seq ?_
        refine xc_dec rfl (fun hq2 => ?_) (fun hq2 => (by exfalso; omega))
        refine xc_seq ?_
        refine xc_region ?_
        refine xo_rd (rd_build rfl rfl rfl) rfl ?_
        refine xo_ef rfl (ef_storeB [_] _ rfl rfl (by first | rfl | assumption) rfl rfl rfl ?_)
        refine xo_rd (rd_assign rfl) rfl ?_
        refine xo_nil ?_
        refine xq_seq ?_
        refine xc_ret ?_
        refine xq_then_ret ?_
        refine xq_block_ret ?_
        refine xq_then_ret ?_
        refine xq_then_ret ?_
        refine xq_block_ret ?_
        refine xq_then_ret ?_
      exact xq_retB2 (.inl rfl) Try.results26 rfl rfl Kn.o1 rfl ((List.sublist_append_right l L).trans ((List.sublist_cons_self _ _).trans (List.sublist_cons_self _ _))) (PuM.err 2)
    · have hcl := hcl (by omega)
      focus
        refine xc_seq ?_
        refine xc_region ?_
        refine xo_rd (rd_lss rfl rfl) rfl ?_
        refine xo_nil ?_
        refine xq_seq ?_
        refine xc_seq ?_
        refine xc_dec rfl (fun hq1 => ?_) (fun hq1 => (by exfalso; omega))
        refine xc_skip ?_
        refine xq_seq ?_
        refine xc_seq ?_
        refine xc_block ?_
        refine xc_seq ?_
        refine xc_region ?_
        refine xo_rd (rd_indexAddr rfl rfl (by omega) (by omega)) rfl ?_
        refine xo_rd (rd_loadA (vs := [Value.int .u32 ss, .string nm]) rfl rfl (hcI _ (by intro z hz; simp [hz]))) rfl ?_
        refine xo_ef rfl (ef_alloc fun r6 => ?_)
        refine xo_ef rfl (ef_storeB [] _ rfl rfl (by first | rfl | assumption) rfl rfl rfl ?_)
        refine xo_nil ?_
        refine xq_seq ?_
        refine xc_seq ?_
        refine xc_seq ?_
        refine xc_region ?_
        refine xo_rd (rd_fieldAddr rfl) rfl ?_
        refine xo_rd (rd_load1 rfl (Cl.o0 rfl)) rfl ?_
        refine xo_rd (rd_lenStr rfl) rfl ?_
        refine xo_rd (rd_gtr rfl rfl) rfl ?_
        refine xo_nil ?_
        refine xq_seq ?_
        refine xc_dec rfl (fun hq2 => (by exfalso; omega)) (fun hq2 => ?_)
        refine xc_skip ?_
        refine xq_seq ?_
        refine xc_seq ?_
        refine xc_region ?_
        refine xo_rd (rd_move rfl) rfl ?_
        refine xo_rd (rd_fieldAddr rfl) rfl ?_
        refine xo_rd (rd_load1 rfl (Cl.o0 rfl)) rfl ?_
        refine xo_ef rfl (ef_slice1 rfl rfl rfl fun r21 => ?_)
        refine xo_ef rfl (ef_call rfl (XF.mono (xf_long (some ⟨r21, 0, none⟩) 1 1 [ss] rfl (Rs.fresh (List.Mem.head _)) hu (by decide)) ?_))
        rintro v L' ⟨s2, k2, l2, rfl, hO2, rfl⟩
        refine xo_perm (perm_in3' l2 l L) ?_
        refine xo_ef rfl (ef_appendS [_, _, _] (l2 ++ L) l (news := ints .u8 ([ss].flatMap be4)) rfl rfl hO rfl (hO2.rs (by intro z hz; simp [hz])) rfl (ints_one _ _) (by decide) (by omega) (by omega) fun s3 k3 l3 hO3 hk3 => ?_)
        refine xo_rd (rd_assign rfl) rfl ?_
        refine xo_nil ?_
        refine xq_seq ?_
      rw [← ints_app] at hO3
      refine xc_join (ι := ChS) (fun z => z.ys = acc ++ [ss].flatMap be4 ++ nameL nm ∧ SlO 1 5 (.slice z.s z.ys.length z.k) z.ys.length (ints .u8 z.ys) z.l) (fun z => (r2, .cells #[.int .u8 0, .int .u8 0, .slice none 0 0, .int .u8 0] 35 (0, 0)) :: (z.l ++ L)) (fun z => [(0, .slice (some ⟨b, o, none⟩) n c), (2, .pointer (some ⟨r2, 0, none⟩)), (4, .slice z.s z.ys.length z.k), (7, .slice (some ⟨b, o, none⟩) n c), (8, .int .i64 n), (9, .int .i64 i)]) ?_ ?_
      · have hl4 : (acc ++ [ss].flatMap be4).length = acc.length + 4 * 1 := by rw [List.length_append, flat4_len]; rfl
        by_cases h0 : nm.size = 0
        · have hnm := nm_size0.1 h0
          focus
            refine xc_seq ?_
            refine xc_region ?_
            refine xo_rd (rd_fieldAddr rfl) rfl ?_
            refine xo_rd (rd_load1 rfl (Cl.o1 rfl)) rfl ?_
            refine xo_rd (rd_cast (v' := .bool false) (rd_nes rfl rfl) (congrArg Value.bool (show (!decide (nm = ⟨#[]⟩)) = false from by rw [decide_eq_true hnm]; rfl))) rfl ?_
            refine xo_nil ?_
            refine xq_seq ?_
            refine xc_condf rfl ?_
            refine xc_skip ?_
          refine xq_sub (L' := (r2, .cells #[.int .u8 0, .int .u8 0, .slice none 0 0, .int .u8 0] 35 (0, 0)) :: (l3 ++ L)) (.cons _ (.cons _ (.cons_cons _ (List.Sublist.append_left (List.sublist_append_right l2 L) l3)))) (xq_joined (⟨acc ++ [ss].flatMap be4, s3, k3, l3⟩ : ChS) ⟨?_, by dsimp only; rw [hl4]; exact hO3⟩ rfl ?_)
          · dsimp only; unfold nameL; rw [if_pos h0, List.append_nil]
          · dsimp only; rw [hl4]; exact (by repeat (first | exact keep_nil | refine keep_cons rfl ?_))
        · have hnm : ¬ nm = ⟨#[]⟩ := fun h => h0 (nm_size0.2 h)
          have hl5 : (acc ++ [ss].flatMap be4 ++ nameL nm).length = acc.length + 4 * 1 + 2 + nm.size := by
            unfold nameL
            rw [if_neg h0, List.length_append, hl4, List.length_append, sbs_len]
            simp; omega
          have hin5 : ints .u8 (acc ++ [ss].flatMap be4 ++ nameL nm) = ints .u8 (acc ++ [ss].flatMap be4) ++ ints .u8 [1, (nm.size : Int)] ++ ints .u8 (sbs nm) := by
            unfold nameL
            rw [if_neg h0, ints_app, ints_app _ [1, (nm.size : Int)], List.append_assoc]
          focus
            refine xc_seq ?_
            refine xc_region ?_
            refine xo_rd (rd_fieldAddr rfl) rfl ?_
            refine xo_rd (rd_load1 rfl (Cl.o1 rfl)) rfl ?_
            refine xo_rd (rd_cast (v' := .bool true) (rd_nes rfl rfl) (congrArg Value.bool (show (!decide (nm = ⟨#[]⟩)) = true from by rw [decide_eq_false hnm]; rfl))) rfl ?_
            refine xo_nil ?_
            refine xq_seq ?_
            refine xc_condt rfl ?_
            refine xc_drawM [0, 0, 2, 4, 8, 16, 33, 0, 128, 320, 1023] [0, 0, 2, 4, 8, 16, 33, 0, 128, 320, 1023] ([(r6, .cells #[.int .u32 ss, .string nm] 97 (0, 0))]) (by kernel_rfl) (by kernel_rfl) (by kernel_rfl) ?_
            refine xm_take 0 (m' := 1) rfl (by kernel_rfl) (by first | exact Sb.refl | exact Sb.nil | (repeat (first | exact Sb.nil | exact Sb.refl | exact Sb.app0 | apply Sb.keep | apply Sb.keepApp | apply Sb.cons | apply Sb.app))) (rd_move rfl) rfl (by kernel_rfl) ?_
            refine xm_take 1 (m' := 3) rfl (by kernel_rfl) (by first | exact Sb.refl | exact Sb.nil | (repeat (first | exact Sb.nil | exact Sb.refl | exact Sb.app0 | apply Sb.keep | apply Sb.keepApp | apply Sb.cons | apply Sb.app))) (rd_fieldAddr rfl) rfl (by kernel_rfl) ?_
            refine xm_take 2 (m' := 7) rfl (by kernel_rfl) (by first | exact Sb.refl | exact Sb.nil | (repeat (first | exact Sb.nil | exact Sb.refl | exact Sb.app0 | apply Sb.keep | apply Sb.keepApp | apply Sb.cons | apply Sb.app))) (rd_load1 rfl (Cl.o0 rfl)) rfl (by kernel_rfl) ?_
            refine xm_take 3 (m' := 15) rfl (by kernel_rfl) (by first | exact Sb.refl | exact Sb.nil | (repeat (first | exact Sb.nil | exact Sb.refl | exact Sb.app0 | apply Sb.keep | apply Sb.keepApp | apply Sb.cons | apply Sb.app))) (rd_lenStr rfl) rfl (by kernel_rfl) ?_
            refine xm_take 4 (m' := 31) rfl (by kernel_rfl) (by first | exact Sb.refl | exact Sb.nil | (repeat (first | exact Sb.nil | exact Sb.refl | exact Sb.app0 | apply Sb.keep | apply Sb.keepApp | apply Sb.cons | apply Sb.app))) (rd_convn rfl (by omega) (by omega)) rfl (by kernel_rfl) ?_
            refine xm_take 7 (m' := 159) rfl (by kernel_rfl) (by first | exact Sb.refl | exact Sb.nil | (repeat (first | exact Sb.nil | exact Sb.refl | exact Sb.app0 | apply Sb.keep | apply Sb.keepApp | apply Sb.cons | apply Sb.app))) (rd_fieldAddr rfl) rfl (by kernel_rfl) ?_
            refine xm_take 8 (m' := 415) rfl (by kernel_rfl) (by first | exact Sb.refl | exact Sb.nil | (repeat (first | exact Sb.nil | exact Sb.refl | exact Sb.app0 | apply Sb.keep | apply Sb.keepApp | apply Sb.cons | apply Sb.app))) (rd_load1 rfl (Cl.o0 rfl)) rfl (by kernel_rfl) ?_
            refine xm_one 5 (m' := 447) rfl (by kernel_rfl) rfl (by kernel_rfl) (ef_buildL (T := 22) (len := 2) (s := 1) (cells := (ints .u8 [1, (nm.size : Int)]).toArray) rfl (by decide) (by decide) (by kernel_rfl) fun r32 => ?_)
            refine ⟨(by first | exact Sb.refl | exact Sb.nil | (repeat (first | exact Sb.nil | exact Sb.refl | exact Sb.app0 | apply Sb.keep | apply Sb.keepApp | apply Sb.cons | apply Sb.app))), ?_⟩
            refine xm_one 6 (m' := 511) rfl (by kernel_rfl) rfl (by kernel_rfl) (ef_appendS [_, _, _, _] (l2 ++ L) l3 (news := ints .u8 [1, (nm.size : Int)]) rfl rfl hO3 rfl (Rs.fresh (List.Mem.head _)) rfl rfl (by decide) (by omega) (by omega) fun s4 k4 l4 hO4 hk4 => ?_)
            refine ⟨(by first | exact Sb.refl | exact Sb.nil | (repeat (first | exact Sb.nil | exact Sb.refl | exact Sb.app0 | apply Sb.keep | apply Sb.keepApp | apply Sb.cons | apply Sb.app))), ?_⟩
            refine xm_one 9 (m' := 1023) rfl (by kernel_rfl) rfl (by kernel_rfl) (ef_appendT [_, _, _, _] (l2 ++ L) l4 rfl rfl hO4 rfl rfl (by omega) (by omega) fun s5 k5 l5 hO5 hk5 => ?_)
            refine ⟨(by first | exact Sb.refl | exact Sb.nil | (repeat (first | exact Sb.nil | exact Sb.refl | exact Sb.app0 | apply Sb.keep | apply Sb.keepApp | apply Sb.cons | apply Sb.app))), ?_⟩
            refine xm_take 10 (m' := 2047) rfl (by kernel_rfl) (by first | exact Sb.refl | exact Sb.nil | (repeat (first | exact Sb.nil | exact Sb.refl | exact Sb.app0 | apply Sb.keep | apply Sb.keepApp | apply Sb.cons | apply Sb.app))) (rd_assign rfl) rfl (by kernel_rfl) ?_
            refine xm_done (by kernel_rfl) ?_
          all_goals refine xq_sub (L' := (r2, .cells #[.int .u8 0, .int .u8 0, .slice none 0 0, .int .u8 0] 35 (0, 0)) :: (l5 ++ L)) (.cons _ (.cons _ (.cons _ (.cons_cons _ (List.Sublist.append_left (List.sublist_append_right l2 L) l5))))) (xq_joined (⟨acc ++ [ss].flatMap be4 ++ nameL nm, s5, k5, l5⟩ : ChS) ⟨rfl, by dsimp only; rw [hl5, hin5]; exact hO5⟩ rfl ?_)
          all_goals (dsimp only; rw [hl5]; exact (by repeat (first | exact keep_nil | refine keep_cons rfl ?_)))
      · rintro ⟨ys, s5, k5, l5⟩ ⟨hys, hO5⟩
        dsimp only at hys hO5 ⊢
        have hyl : ys.length ≤ acc.length + 270 := by
          have := nameL_len nm (by omega)
          rw [hys]
          simp only [List.length_append, flat4_len, List.length_singleton]
          omega
        have hcA : chA acc ⟨ss, nm⟩ = fil (ys ++ [0]) := by rw [hys]; rfl
        focus
          refine xc_region ?_
          refine xo_rd (rd_move rfl) rfl ?_
          refine xo_ef rfl (ef_slice1 rfl rfl rfl fun r38 => ?_)
          refine xo_ef rfl (ef_appendS [_, _] L l5 (news := [.int .u8 0]) rfl rfl hO5 rfl (Rs.fresh (List.Mem.head _)) rfl rfl (by decide) (by omega) (by omega) fun s6 k6 l6 hO6 hk6 => ?_)
          refine xo_ef rfl (ef_call rfl (XF.mono (XF.seg [_, _] l6 L (xf_filled _ (ys.length + 1) (ys ++ [0]) l6 (by rw [ints_snoc]; exact hO6) (by omega))) ?_))
          rintro v L' ⟨s7, k7, l7, rfl, hO7, rfl⟩
          refine xo_seg [_, _] l7 L ?_
          refine xo_rd (rd_assign rfl) rfl ?_
          refine xo_nil ?_
          refine xq_block ?_
          refine xq_seq ?_
          refine xc_region ?_
          refine xo_rd (rd_addn rfl rfl (by omega) (by omega)) rfl ?_
          refine xo_rd (rd_move rfl) rfl ?_
          refine xo_nil ?_
        have hl7 : (chA acc ⟨ss, nm⟩).length = ys.length + 1 + (4 - (ys.length + 1) % 4) % 4 := by rw [hcA, fil_len]; simp
        refine xq_tail (xq_roundI (⟨i + 1, s7, k7, l7⟩ : LgS) ⟨by dsimp only; omega, hok' (by omega), by dsimp only; rw [e1]; omega, ?_⟩ (by dsimp only; omega) rfl ?_)
        · dsimp only
          rw [e1, hl7, hcA]
          unfold fil
          rw [show (ys ++ [(0 : Int)]).length = ys.length + 1 from by simp]
          exact hO7
        · dsimp only
          rw [e1, hl7]
          exact (by repeat (first | exact keep_nil | refine keep_cons rfl ?_))
  · have hin' : i = n := by omega
    subst hin'
    rw [List.take_of_length_le (by omega)] at hO hle
    have hnone : ¬ xs.any (fun x => decide (255 < x.nm.size)) = true := fun h => by
      obtain ⟨x, hx, hd⟩ := List.any_eq_true.1 h
      obtain ⟨j, hj, rfl⟩ := List.getElem_of_mem hx
      have := hok j hj (by omega)
      have := of_decide_eq_true hd
      omega
    by_cases h31 : 31 < xs.length
    · rw [show putCh xs = (.zero, 2) from by unfold putCh; rw [if_neg hnone, if_pos h31]]
      focus
        refine xc_seq ?_
        refine xc_region ?_
        refine xo_rd (rd_lss rfl rfl) rfl ?_
        refine xo_nil ?_
        refine xq_seq ?_
        refine xc_seq ?_
        refine xc_dec rfl (fun hq1 => (by exfalso; omega)) (fun hq1 => ?_)
        refine xc_exit ?_
        refine xq_then_exit ?_
        refine xq_then_exit ?_
        refine xq_block_hit ?_
        refine xq_seq ?_
        refine xc_seq ?_
        refine xc_seq ?_
        refine xc_region ?_
        refine xo_rd (rd_move rfl) rfl ?_
        refine xo_rd (rd_len rfl) rfl ?_
        refine xo_rd (rd_gtr rfl rfl) rfl ?_
        refine xo_nil ?_
        refine xq_seq ?_
        refine xc_dec rfl (fun hq2 => ?_) (fun hq2 => (by exfalso; omega))
        refine xc_seq ?_
        refine xc_region ?_
        refine xo_rd (rd_build rfl rfl rfl) rfl ?_
        refine xo_ef rfl (ef_storeB [] _ rfl rfl (by first | rfl | assumption) rfl rfl rfl ?_)
        refine xo_rd (rd_assign rfl) rfl ?_
        refine xo_nil ?_
        refine xq_seq ?_
        refine xc_ret ?_
        refine xq_then_ret ?_
      exact xq_retB2 (.inl rfl) Try.results26 rfl rfl Kn.o0 rfl ((List.sublist_append_right l L).trans (List.sublist_cons_self _ _)) (PuM.err 2)
    · rw [show putCh xs = (⟨xs.length, 202, chunksL xs, 0⟩, 0) from by unfold putCh; rw [if_neg hnone, if_neg h31]]
      rw [List.take_of_length_le (by omega)]
      focus
        refine xc_seq ?_
        refine xc_region ?_
        refine xo_rd (rd_lss rfl rfl) rfl ?_
        refine xo_nil ?_
        refine xq_seq ?_
        refine xc_seq ?_
        refine xc_dec rfl (fun hq1 => (by exfalso; omega)) (fun hq1 => ?_)
        refine xc_exit ?_
        refine xq_then_exit ?_
        refine xq_then_exit ?_
        refine xq_block_hit ?_
        refine xq_seq ?_
        refine xc_seq ?_
        refine xc_seq ?_
        refine xc_region ?_
        refine xo_rd (rd_move rfl) rfl ?_
        refine xo_rd (rd_len rfl) rfl ?_
        refine xo_rd (rd_gtr rfl rfl) rfl ?_
        refine xo_nil ?_
        refine xq_seq ?_
        refine xc_dec rfl (fun hq2 => (by exfalso; omega)) (fun hq2 => ?_)
        refine xc_skip ?_
        refine xq_seq ?_
        refine xc_seq ?_
        refine xc_region ?_
        refine xo_rd (rd_move rfl) rfl ?_
        refine xo_rd (rd_len rfl) rfl ?_
        refine xo_rd (rd_convn rfl (by omega) (by omega)) rfl ?_
        refine xo_rd (rd_move rfl) rfl ?_
        refine xo_rd (rd_build rfl rfl rfl) rfl ?_
        refine xo_ef rfl (ef_storeB [] _ rfl rfl (by first | rfl | assumption) rfl rfl rfl ?_)
        refine xo_rd (rd_assign rfl) rfl ?_
        refine xo_nil ?_
        refine xq_seq ?_
        refine xc_ret ?_
      refine xq_retB2 (.inl rfl) Try.results26 rfl rfl Kn.o0 rfl (List.sublist_cons_self _ _) ⟨⟨⟨xs.length, 202, chunksL xs, 0⟩, s, k, l⟩, ?_, rfl, hO, rfl⟩
      unfold Pb.enc Pc.enc chunksL; dsimp only; rw [hx]; rfl
end Go.Proofs.Ytohlaabclifbfaa.X
/-
  The chapter's examples: a walk of my own.
-/
namespace Go.Proofs.Ytohlaabclifbfaa.X
open Go Go.RowKit
set_option linter.unusedVariables false
set_option linter.unusedSimpArgs false
theorem xf_join2 {W : World} {L : List Blk} (p : Option Addr) (n c : Nat) (xs : List Pb) (out : List Int) (e : Int) (hz : joinL (xs.map Pb.q) = (out, e)) (hx : xs.length = n) (hA : PbR W L p xs) (hn : n ≤ 1000000) :
    XF Try.prog W 16 #[.slice p n c] L (fun v L' => ∃ s k l, v = .tuple #[.slice s out.length k, .int .i64 e] ∧ SlO 1 5 (.slice s out.length k) out.length (ints .u8 out) l ∧ L' = l ++ L) := by
  have := xf_join p n c xs hx hA hn
  rwa [hz] at this
theorem xf_rjoin2 {W : World} {L : List Blk} (p : Option Addr) (n c : Nat) (xs : List Pb) (out : List Int) (e : Int) (hz : joinL (xs.map Pb.q) = (out, e)) (hx : xs.length = n) (hA : PbR W L p xs) (hn : n ≤ 1000000) :
    XF Try.prog W 19 #[.slice p n c] L (fun v L' => ∃ s k l, v = .tuple #[.slice s out.length k, .int .i64 e] ∧ SlO 1 5 (.slice s out.length k) out.length (ints .u8 out) l ∧ L' = l ++ L) := by
  have := xf_rjoin p n c xs hx hA hn
  rwa [hz] at this
theorem xf_split2 {W : World} {L : List Blk} (p : Option Addr) (m c : Nat) (bs : List Int) (qs : List Pc) (e : Int) (hz : splitL (bs.length + 1) true bs = (qs, e)) (hx : bs.length = m) (hr : Rs W L p (ints .u8 bs)) (hb : ∀ x, x ∈ bs → By x) (hc : m ≤ c) (hm : m ≤ 1000000) :
    XF Try.prog W 11 #[.slice p m c] L (fun v L' => ∃ xs s k l, v = .tuple #[.slice s xs.length k, .int .i64 e] ∧ xs.map Pb.q = qs ∧ (∀ x, x ∈ xs → x.Ok) ∧ (∀ x, x ∈ xs → x.q.Rg) ∧ SlO 4 35 (.slice s xs.length k) xs.length (xs.flatMap Pb.enc) l ∧ L' = l ++ (bls xs ++ L)) := by
  have := xf_split p m c bs hx hr hb hc hm
  rwa [hz] at this
theorem xf_rsplit2 {W : World} {L : List Blk} (p : Option Addr) (m c : Nat) (bs : List Int) (qs : List Pc) (e : Int) (hz : splitL (bs.length + 1) true bs = (qs, e)) (hx : bs.length = m) (hr : Rs W L p (ints .u8 bs)) (hb : ∀ x, x ∈ bs → By x) (hc : m ≤ c) (hm : m ≤ 1000000) :
    XF Try.prog W 10 #[.slice p m c] L (fun v L' => ∃ xs s k l, v = .tuple #[.slice s xs.length k, .int .i64 e] ∧ xs.map Pb.q = qs ∧ (∀ x, x ∈ xs → x.Ok) ∧ (∀ x, x ∈ xs → x.q.Rg) ∧ SlO 4 46 (.slice s xs.length k) xs.length (xs.flatMap Pb.enc) l ∧ L' = l ++ (bls xs ++ L)) := by
  have := xf_rsplit p m c bs hx hr hb hc hm
  rwa [hz] at this
theorem xf_putChunks2 {W : World} {L : List Blk} (p : Option Addr) (n c : Nat) (xs : List Ck) (q : Pc) (e : Int) (hz : putCh xs = (q, e)) (hx : xs.length = n) (hr : Rs W L p (xs.flatMap Ck.enc)) (hg : ∀ x, x ∈ xs → U4 x.ss) (hn : n ≤ 1000000) :
    XF Try.prog W 26 #[.slice p n c] L (fun v L' => ∃ x : Pb, v = .tuple #[.agg x.enc.toArray, .int .i64 e] ∧ x.q = q ∧ x.Ok ∧ L' = x.l ++ L) := by
  have := xf_putChunks p n c xs hx hr hg hn
  rwa [hz] at this
theorem xf_receiver2 {W : World} {L : List Blk} (ss : Int) (hs : U4 ss) (p : Option Addr) (n c : Nat) (xs : List Bk) (q : Pc) (e : Int) (hz : rcvR ss xs = (q, e)) (hx : xs.length = n) (hr : Rs W L p (xs.flatMap Bk.enc)) (hg : ∀ x, x ∈ xs → x.Rg) (hn : n ≤ 1000000) :
    XF Try.prog W 25 #[.agg #[.int .u32 ss, .slice p n c]] L (fun v L' => ∃ x : Pb, v = .tuple #[.agg x.enc.toArray, .int .i64 e] ∧ x.q = q ∧ x.Ok ∧ L' = x.l ++ L) := by
  have := xf_receiver ss hs p n c xs hx hr hg hn
  rwa [hz] at this
def exP : Pc := ⟨0, 201, [0, 0, 0, 1], 0⟩
def exQ : Pc := ⟨1, 202, [0, 0, 0, 2, 1, 2, 97, 98, 0, 0, 0, 0], 0⟩
def exC : Ck := ⟨2, ⟨#[97, 98]⟩⟩
theorem exP_put : rcvR 1 [] = (exP, 0) := by decide +kernel
theorem exQ_put : putCh [exC] = (exQ, 0) := by decide +kernel
theorem exP_rg : exP.Rg := ⟨⟨by decide, by decide⟩, ⟨by decide, by decide⟩, by unfold By; decide, ⟨by decide, by decide⟩⟩
theorem exQ_rg : exQ.Rg := ⟨⟨by decide, by decide⟩, ⟨by decide, by decide⟩, by unfold By; decide, ⟨by decide, by decide⟩⟩
def exB : List Int := [128, 201, 0, 1, 0, 0, 0, 1, 129, 202, 0, 3, 0, 0, 0, 2, 1, 2, 97, 98, 0, 0, 0, 0]
theorem exJ : joinL [exP, exQ] = (exB, 0) := by decide +kernel
set_option maxHeartbeats 4000000 in
theorem xf_works {W : World} : XF Try.prog W 8 #[] [] (fun v L' => v = .bool true) := by
  refine xf_enter (args := []) Try.func8 rfl Try.ntmps8 rfl ?_
  focus
    refine xc_seq ?_
    refine xc_region ?_
    refine xo_rd (rd_assign rfl) rfl ?_
    refine xo_nil ?_
    refine xq_seq ?_
    refine xc_seq ?_
    refine xc_region ?_
    refine xo_rd (rd_build rfl rfl rfl) rfl ?_
    refine xo_ef rfl (ef_call rfl (XF.mono (xf_receiver2 1 ⟨by decide, by decide⟩ none 0 0 [] exP 0 exP_put rfl Rs.nil (fun x h => by cases h) (Nat.zero_le _)) ?_))
    rintro v L' ⟨x, rfl, hxq, hxo, rfl⟩
    refine xo_rd (rd_move rfl) rfl ?_
    refine xo_rd (rd_extract rfl rfl) rfl ?_
    refine xo_rd (rd_extract rfl rfl) rfl ?_
    refine xo_ef rfl (ef_alloc fun r1 => ?_)
    refine xo_ef rfl (ef_storeB [] _ rfl rfl (by first | rfl | assumption) rfl rfl rfl ?_)
    refine xo_rd (rd_assign rfl) rfl ?_
    refine xo_nil ?_
    refine xq_seq ?_
  focus
    refine xc_seq ?_
    refine xc_region ?_
    refine xo_rd (rd_build rfl rfl rfl) rfl ?_
    refine xo_ef rfl (ef_sliceA (vs := exC.enc) rfl rfl (by decide) (by decide) fun r20 => ?_)
    refine xo_ef rfl (ef_call rfl (XF.mono (xf_putChunks2 (some ⟨r20, 0, none⟩) 1 1 [exC] exQ 0 exQ_put rfl (Rs.fresh (vs := exC.enc) (List.Mem.head _)) (fun x h => by rw [List.mem_singleton.1 h]; exact ⟨by decide, by decide⟩) (by decide)) ?_))
    rintro v L' ⟨y, rfl, hyq, hyo, rfl⟩
    refine xo_perm List.perm_append_comm ?_
    refine xo_rd (rd_move rfl) rfl ?_
    refine xo_rd (rd_extract rfl rfl) rfl ?_
    refine xo_rd (rd_extract rfl rfl) rfl ?_
    refine xo_ef rfl (ef_alloc fun r3 => ?_)
    refine xo_ef rfl (ef_storeB [] _ rfl rfl (by first | rfl | assumption) rfl rfl rfl ?_)
    refine xo_rd (rd_assign rfl) rfl ?_
    refine xo_nil ?_
    refine xq_seq ?_
  have hqs : [x, y].map Pb.q = [exP, exQ] := by show [x.q, y.q] = _; rw [hxq, hyq]
  have hx1 : ∀ L', (∀ z, z ∈ x.l → z ∈ L') → Rs W L' x.p (ints .u8 x.q.bd) := fun L' h => SlO.rs hxo h
  have hy1 : ∀ L', (∀ z, z ∈ y.l → z ∈ L') → Rs W L' y.p (ints .u8 y.q.bd) := fun L' h => SlO.rs hyo h
  focus
    refine xc_seq ?_
    refine xc_region ?_
    refine xo_rd (rd_loadB rfl Kn.o2 (by rfl)) rfl ?_
    refine xo_rd (rd_loadB rfl Kn.o0 (by rfl)) rfl ?_
    refine xo_ef rfl (ef_buildL (T := 29) (len := 2) (s := 4) (cells := ([x, y].flatMap Pb.enc).toArray) rfl (by decide) (by decide) (by kernel_rfl) fun r27 => ?_)
    refine xo_ef rfl (ef_call rfl (XF.mono (xf_join2 (some ⟨r27, 0, none⟩) 2 2 [x, y] exB 0 (by rw [hqs]; exact exJ) rfl ⟨Rs.fresh (List.Mem.head _), (fun z h => by simp only [List.mem_cons, List.not_mem_nil, or_false] at h; rcases h with rfl | rfl; exact hx1 _ (by intro z hz; simp [hz]); exact hy1 _ (by intro z hz; simp [hz])), (fun z h => by simp only [List.mem_cons, List.not_mem_nil, or_false] at h; rcases h with rfl | rfl; rw [hxq]; exact exP_rg; rw [hyq]; exact exQ_rg), (fun z h => by simp only [List.mem_cons, List.not_mem_nil, or_false] at h; rcases h with rfl | rfl; rw [hxq]; decide; rw [hyq]; decide)⟩ (by decide)) ?_))
    rintro v L' ⟨s, k, l, rfl, hO, rfl⟩
    refine xo_rd (rd_move rfl) rfl ?_
    refine xo_rd (rd_extract rfl rfl) rfl ?_
    refine xo_rd (rd_extract rfl rfl) rfl ?_
    refine xo_rd (rd_assign rfl) rfl ?_
    refine xo_rd (rd_assign rfl) rfl ?_
    refine xo_nil ?_
    refine xq_seq ?_
  focus
    refine xc_seq ?_
    refine xc_region ?_
    refine xo_ef rfl (ef_buildL (T := 22) (len := 4) (s := 1) (cells := (ints .u8 [128, 200, 0, 5]).toArray) rfl (by decide) (by decide) (by kernel_rfl) fun r32 => ?_)
    refine xo_ef rfl (ef_call rfl (XF.mono (xf_split2 (some ⟨r32, 0, none⟩) 4 4 [128, 200, 0, 5] [] 61 (by decide +kernel) rfl (Rs.fresh (List.Mem.head _)) (by unfold By; decide) (by decide) (by decide)) ?_))
    rintro v L' ⟨x1, s1, k1, l1, rfl, h1, h2, h3, h4, rfl⟩
    refine xo_rd (rd_move rfl) rfl ?_
    refine xo_rd (rd_extract rfl rfl) rfl ?_
    refine xo_rd (rd_extract rfl rfl) rfl ?_
    refine xo_rd (rd_assign rfl) rfl ?_
    refine xo_rd (rd_assign rfl) rfl ?_
    refine xo_nil ?_
    refine xq_seq ?_
  focus
    refine xc_seq ?_
    refine xc_region ?_
    refine xo_ef rfl (ef_buildL (T := 22) (len := 4) (s := 1) (cells := (ints .u8 [128, 202, 0, 0]).toArray) rfl (by decide) (by decide) (by kernel_rfl) fun r37 => ?_)
    refine xo_ef rfl (ef_call rfl (XF.mono (xf_split2 (some ⟨r37, 0, none⟩) 4 4 [128, 202, 0, 0] [] 60 (by decide +kernel) rfl (Rs.fresh (List.Mem.head _)) (by unfold By; decide) (by decide) (by decide)) ?_))
    rintro v L' ⟨x2, s2, k2, l2, rfl, h5, h6, h7, h8, rfl⟩
    refine xo_rd (rd_move rfl) rfl ?_
    refine xo_rd (rd_extract rfl rfl) rfl ?_
    refine xo_rd (rd_extract rfl rfl) rfl ?_
    refine xo_rd (rd_assign rfl) rfl ?_
    refine xo_rd (rd_assign rfl) rfl ?_
    refine xo_nil ?_
    refine xq_seq ?_
  focus
    refine xc_seq ?_
    refine xc_region ?_
    refine xo_ef rfl (ef_buildL (T := 22) (len := 4) (s := 1) (cells := (ints .u8 [64, 201, 0, 0]).toArray) rfl (by decide) (by decide) (by kernel_rfl) fun r42 => ?_)
    refine xo_ef rfl (ef_call rfl (XF.mono (xf_split2 (some ⟨r42, 0, none⟩) 4 4 [64, 201, 0, 0] [] 20 (by decide +kernel) rfl (Rs.fresh (List.Mem.head _)) (by unfold By; decide) (by decide) (by decide)) ?_))
    rintro v L' ⟨x3, s3, k3, l3, rfl, h9, h10, h11, h12, rfl⟩
    refine xo_rd (rd_move rfl) rfl ?_
    refine xo_rd (rd_extract rfl rfl) rfl ?_
    refine xo_rd (rd_extract rfl rfl) rfl ?_
    refine xo_rd (rd_assign rfl) rfl ?_
    refine xo_rd (rd_assign rfl) rfl ?_
    refine xo_nil ?_
    refine xq_seq ?_
  focus
    refine xc_seq ?_
    refine xc_region ?_
    refine xo_rd (rd_move rfl) rfl ?_
    refine xo_rd (rd_eql rfl rfl) rfl ?_
    refine xo_rd (rd_move rfl) rfl ?_
    refine xo_grd rfl rfl (rd_move rfl) rfl ?_
    refine xo_grd rfl rfl (rd_eql rfl rfl) rfl ?_
    refine xo_rd (rd_pickt rfl rfl) rfl ?_
    refine xo_rd (rd_move rfl) rfl ?_
    refine xo_grd rfl rfl (rd_move rfl) rfl ?_
    refine xo_grd rfl rfl (rd_eql rfl rfl) rfl ?_
    refine xo_rd (rd_pickt rfl rfl) rfl ?_
    refine xo_rd (rd_move rfl) rfl ?_
    refine xo_grd rfl rfl (rd_move rfl) rfl ?_
    refine xo_grd rfl rfl (rd_convStr (hO.rs (by intro z hz; simp [hz])) rfl rfl) rfl ?_
    refine xo_grd rfl rfl (rd_cast (v' := .bool true) (rd_eqs rfl rfl) (congrArg Value.bool (decide_eq_true (by rfl)))) rfl ?_
    refine xo_rd (rd_pickt rfl rfl) rfl ?_
    refine xo_rd (rd_move rfl) rfl ?_
    refine xo_grd rfl rfl (rd_move rfl) rfl ?_
    refine xo_grd rfl rfl (rd_eql rfl rfl) rfl ?_
    refine xo_rd (rd_pickt rfl rfl) rfl ?_
    refine xo_rd (rd_move rfl) rfl ?_
    refine xo_grd rfl rfl (rd_move rfl) rfl ?_
    refine xo_grd rfl rfl (rd_eql rfl rfl) rfl ?_
    refine xo_rd (rd_pickt rfl rfl) rfl ?_
    refine xo_rd (rd_move rfl) rfl ?_
    refine xo_grd rfl rfl (rd_move rfl) rfl ?_
    refine xo_grd rfl rfl (rd_eql rfl rfl) rfl ?_
    refine xo_rd (rd_pickt rfl rfl) rfl ?_
    refine xo_rd (rd_assign rfl) rfl ?_
    refine xo_nil ?_
    refine xq_seq ?_
    refine xc_ret ?_
    exact xq_ret1 (.inl rfl) Try.results8 rfl (rfl)
  all_goals done
end Go.Proofs.Ytohlaabclifbfaa.X
/-
  RtcpSplits: a walk of my own.
-/
namespace Go.Proofs.Ytohlaabclifbfaa.X
open Go Go.RowKit
set_option linter.unusedVariables false
set_option linter.unusedSimpArgs false
theorem perm_mv2 (a b c d e : List Blk) : (a ++ (b ++ (c ++ (d ++ e)))).Perm (b ++ (c ++ ((a ++ d) ++ e))) := (by classical exact List.perm_iff_count.2 fun a => by simp only [List.append_eq, List.count_append, List.count_cons, List.count_nil, List.cons_append, List.nil_append, List.flatMap_append, List.flatMap_cons, List.flatMap_nil, List.append_nil]; omega)
theorem bls_drop (xs : List Pb) (i : Nat) (h : i < xs.length) : bls (xs.drop i) = xs[i].l ++ bls (xs.drop (i + 1)) := by
  rw [List.drop_eq_getElem_cons h]; rfl
theorem splitL_bd : ∀ (k : Nat) (f : Bool) (b : List Int) (q : Pc), q ∈ (splitL k f b).1 → q.bd.length ≤ b.length
  | 0, _, _, q, h => by cases h
  | k + 1, f, b, q, h => by
    unfold splitL at h
    split at h
    · cases h
    · split at h
      · cases h
      · rename_i h0
        have h0' : (takeP b f).1 = 0 := by simpa using h0
        have hl := takeP_len h0'
        split at h
        · cases h
        · rcases List.mem_cons.1 h with h | h
          · rw [h]
            rcases b with _ | ⟨b0, _ | ⟨b1, _ | ⟨b2, _ | ⟨b3, t⟩⟩⟩⟩
            · exact Nat.zero_le _
            · exact Nat.zero_le _
            · exact Nat.zero_le _
            · exact Nat.zero_le _
            · show (takeT b0 b1 (4 * vl [b2, b3]).toNat t f).2.1.bd.length ≤ t.length + 1 + 1 + 1 + 1
              unfold takeT
              split
              · exact Nat.zero_le _
              · split
                · exact Nat.zero_le _
                · split
                  · exact Nat.zero_le _
                  · split
                    · split
                      · exact Nat.zero_le _
                      · dsimp only; rw [List.length_take]; omega
                    · dsimp only; rw [List.length_take]; omega
          · have := splitL_bd k false _ q h
            omega
theorem splitL_few : ∀ (k : Nat) (f : Bool) (b : List Int), 4 * (splitL k f b).1.length ≤ b.length
  | 0, _, _ => Nat.zero_le _
  | k + 1, f, b => by
    unfold splitL
    split
    · exact Nat.zero_le _
    · split
      · exact Nat.zero_le _
      · rename_i h0
        have h0' : (takeP b f).1 = 0 := by simpa using h0
        have hl := takeP_len h0'
        split
        · exact Nat.zero_le _
        · have := splitL_few k false (takeP b f).2.2
          simp only [List.length_cons]
          omega
set_option maxHeartbeats 8000000 in
theorem xf_RtcpSplits {W : World} (p : Option Addr) (m c : Nat) (bs : List Int) (hx : bs.length = m) (hr : Rs W [] p (ints .u8 bs)) (hb : ∀ x, x ∈ bs → By x) (hc : m ≤ c) (hm : m ≤ 9223372036854775807) : XF Try.prog W 3 #[.slice p m c] [] (fun v L' => v = .bool true) := by
  refine xf_enter (args := [_]) Try.func3 rfl Try.ntmps3 rfl ?_
  have hr' : ∀ L, Rs W L p (ints .u8 bs) := fun L => hr.nilL
  focus
    refine xc_seq ?_
    refine xc_region ?_
    refine xo_rd (rd_assign rfl) rfl ?_
    refine xo_nil ?_
    refine xq_seq ?_
    refine xc_seq ?_
    refine xc_seq ?_
    refine xc_region ?_
    refine xo_rd (rd_move rfl) rfl ?_
    refine xo_rd (rd_len rfl) rfl ?_
    refine xo_rd (rd_gtr rfl rfl) rfl ?_
    refine xo_nil ?_
    refine xq_seq ?_
    refine xc_dec rfl (fun hh1 => ?_) (fun hh1 => ?_)
    refine xc_seq ?_
    refine xc_region ?_
    refine xo_ef rfl (ef_call rfl (XF.mono (xf_any (fun W => xf_works)) ?_))
    rintro v L' ⟨rfl, rfl⟩
    refine xo_rd (rd_assign rfl) rfl ?_
    refine xo_nil ?_
    refine xq_seq ?_
    refine xc_ret ?_
    refine xq_then_ret ?_
    exact xq_ret1 (.inl rfl) Try.results3 rfl (rfl)
    refine xc_skip ?_
    refine xq_seq ?_
  have hm2 : m ≤ 2000 := by omega
  obtain ⟨⟨qs, e⟩, hz⟩ : ∃ z, splitL (bs.length + 1) true bs = z := ⟨_, rfl⟩
  have hqb : ∀ q, q ∈ qs → q.bd.length ≤ m := fun q h => by have := splitL_bd (bs.length + 1) true bs q (by rw [hz]; exact h); omega
  have hqn : qs.length ≤ m := by have := splitL_few (bs.length + 1) true bs; rw [hz] at this; dsimp only at this; omega
  focus
    refine xc_seq ?_
    refine xc_region ?_
    refine xo_rd (rd_move rfl) rfl ?_
    refine xo_ef rfl (ef_call rfl (XF.mono (xf_own p m c (ints .u8 bs) (by rw [ints_len, hx, Nat.mul_one]) (hr' _) (ints_one _ _) (by omega)) ?_))
    rintro v L' ⟨po, co, lo, rfl, hOo, hco, rfl⟩
    refine xo_rd (rd_assign rfl) rfl ?_
    refine xo_nil ?_
    refine xq_seq ?_
    refine xc_seq ?_
    refine xc_region ?_
    refine xo_rd (rd_move rfl) rfl ?_
    refine xo_ef rfl (ef_call rfl (XF.mono (xf_rsplit2 po m co bs qs e hz hx (hOo.rs (by intro z hz; simp [hz])) hb hco (by omega)) ?_))
    rintro v L' ⟨ys, sy, ky, ly, rfl, hyq, hyo, hyr, hys, rfl⟩
    refine xo_rd (rd_move rfl) rfl ?_
    refine xo_rd (rd_extract rfl rfl) rfl ?_
    refine xo_rd (rd_extract rfl rfl) rfl ?_
    refine xo_rd (rd_assign rfl) rfl ?_
    refine xo_rd (rd_assign rfl) rfl ?_
    refine xo_nil ?_
    refine xq_seq ?_
    refine xc_seq ?_
    refine xc_seq ?_
    refine xc_region ?_
    refine xo_rd (rd_assign rfl) rfl ?_
    refine xo_nil ?_
    refine xq_seq ?_
    refine xc_block ?_
  have hyf : ∀ y, y ∈ ys → y.q.bd.length ≤ 1000000 := fun y hy => by have := hqb y.q (by rw [← hyq]; exact List.mem_map_of_mem hy); omega
  have hyP : PbR W (ly ++ (bls ys ++ (lo ++ []))) sy ys := PbR.own hys hyo hyr hyf
  refine xc_loopK (ι := Nat) (fun t => t ≤ 2) (fun t => 2 - t) (fun t => [(0, .slice p m c), (3, .slice po m co), (4, .slice sy ys.length ky), (5, .int .i64 e), (6, .int .i64 t)]) 0 (by decide) (by repeat (first | exact keep_nil | refine keep_cons rfl ?_)) ?_
  intro t ht
  focus
    refine xc_seq ?_
    refine xc_seq ?_
    refine xc_region ?_
    refine xo_rd (rd_move rfl) rfl ?_
    refine xo_rd (rd_lss rfl rfl) rfl ?_
    refine xo_nil ?_
    refine xq_seq ?_
    refine xc_dec rfl (fun hi1 => ?_) (fun hi1 => ?_)
    refine xc_skip ?_
    refine xq_seq ?_
    refine xc_seq ?_
    refine xc_block ?_
    refine xc_seq ?_
    refine xc_region ?_
    refine xo_rd (rd_move rfl) rfl ?_
    refine xo_ef rfl (ef_call rfl (XF.mono (xf_split2 p m c bs qs e hz hx (hr' _) hb hc (by omega)) ?_))
    rintro v L' ⟨xs, s, k, l, rfl, hxq, hxo, hxr, hxs, rfl⟩
    refine xo_rd (rd_move rfl) rfl ?_
    refine xo_rd (rd_extract rfl rfl) rfl ?_
    refine xo_rd (rd_extract rfl rfl) rfl ?_
    refine xo_rd (rd_assign rfl) rfl ?_
    refine xo_rd (rd_assign rfl) rfl ?_
    refine xo_nil ?_
    refine xq_seq ?_
    refine xc_seq ?_
    refine xc_seq ?_
    refine xc_region ?_
    refine xo_rd (rd_move rfl) rfl ?_
    refine xo_rd (rd_move rfl) rfl ?_
    refine xo_rd (rd_neq rfl rfl) rfl ?_
    refine xo_rd (rd_move rfl) rfl ?_
    refine xo_ndec 33 rfl (fun h => absurd rfl h) (fun _ => ?_)
    refine xo_grd rfl rfl (rd_move rfl) rfl ?_
    refine xo_grd rfl rfl (rd_move rfl) rfl ?_
    refine xo_gef rfl rfl rfl (ef_call rfl (XF.mono (xf_sameRs s sy xs.length ys.length k ky xs ys true (by rw [hxq, hyq]; exact decide_eq_true rfl) rfl rfl (PbR.own hxs hxo hxr (fun x h => by have := hqb x.q (by rw [← hxq]; exact List.mem_map_of_mem h); omega)) (hyP.mono fun z hz => List.mem_append_right _ (List.mem_append_right _ hz)) (by have := congrArg List.length hxq; simp at this; omega)) ?_))
    rintro v L' ⟨rfl, rfl⟩
    refine xo_grd rfl rfl (rd_not rfl) rfl ?_
    refine xo_rd (rd_pickf rfl rfl) rfl ?_
    refine xo_nil ?_
    refine xq_seq ?_
    refine xc_condf rfl ?_
    refine xc_skip ?_
    refine xq_seq ?_
    refine xc_seq ?_
    refine xc_region ?_
    refine xo_rd (rd_assign rfl) rfl ?_
    refine xo_nil ?_
    refine xq_seq ?_
    refine xc_block ?_
    rotate_left
    refine xc_exit ?_
    refine xq_then_exit ?_
    refine xq_then_exit ?_
    refine xq_block_hit ?_
    refine xq_seq ?_
    refine xc_seq ?_
    refine xc_region ?_
    refine xo_rd (rd_move rfl) rfl ?_
    refine xo_rd (rd_move rfl) rfl ?_
    refine xo_ef rfl (ef_call rfl (XF.mono (xf_samebytesT p po m m c co bs bs rfl hx hx (hr' _) (hOo.rs (by intro z hz; simp [hz])) (by omega)) ?_))
    rintro v L' ⟨rfl, rfl⟩
    refine xo_rd (rd_move rfl) rfl ?_
    refine xo_gef rfl rfl rfl (ef_call rfl (XF.mono (xf_any (fun W => xf_works)) ?_))
    rintro v L' ⟨rfl, rfl⟩
    refine xo_rd (rd_pickt rfl rfl) rfl ?_
    refine xo_rd (rd_assign rfl) rfl ?_
    refine xo_nil ?_
    refine xq_seq ?_
    refine xc_ret ?_
    exact xq_ret1 (.inl rfl) Try.results3 rfl (rfl)
  generalize hL0 : ly ++ (bls ys ++ (lo ++ [])) = L0 at *
  refine xc_loopI (ι := Nat × List Blk) (fun z => z.1 ≤ xs.length) (fun z => xs.length - z.1) (fun z => l ++ (bls (xs.drop z.1) ++ (z.2 ++ L0))) (fun z => [(0, .slice p m c), (3, .slice po m co), (4, .slice sy ys.length ky), (5, .int .i64 e), (6, .int .i64 t), (7, .slice s xs.length k), (9, .int .i64 z.1)]) (0, []) (Nat.zero_le _) rfl (by repeat (first | exact keep_nil | refine keep_cons rfl ?_)) ?_
  rintro ⟨i, G⟩ hi
  dsimp only at hi ⊢
  have hxl : xs.length ≤ m := by have := congrArg List.length hxq; simp at this; omega
  by_cases hin : i < xs.length
  · have hxo' := hxo xs[i] (List.getElem_mem _)
    have hbd := bls_drop xs i hin
    have hxb : xs[i].q.bd.length ≤ 1000000 := by have := hqb xs[i].q (by rw [← hxq]; exact List.mem_map_of_mem (List.getElem_mem _)); omega
    obtain ⟨b, o, hp, hcc⟩ := (hxs.rs (fun z hz => List.mem_append_left _ hz) : Rs W (l ++ (bls (xs.drop i) ++ (G ++ L0))) s (xs.flatMap Pb.enc)).rows Pb.len (by decide) (by omega)
    have hci := hcc i hin
    subst hp
    generalize xs[i] = x at *
    rw [hbd] at hci ⊢
    rw [List.append_assoc] at hci ⊢
    have hc2 := hci 2 (.slice x.p x.q.bd.length x.c) rfl
    focus
      refine xc_seq ?_
      refine xc_seq ?_
      refine xc_region ?_
      refine xo_rd (rd_move rfl) rfl ?_
      refine xo_rd (rd_move rfl) rfl ?_
      refine xo_rd (rd_len rfl) rfl ?_
      refine xo_rd (rd_lss rfl rfl) rfl ?_
      refine xo_nil ?_
      refine xq_seq ?_
      refine xc_dec rfl (fun h1 => ?_) (fun h1 => (by exfalso; omega))
      refine xc_skip ?_
      refine xq_seq ?_
      refine xc_seq ?_
      refine xc_block ?_
      refine xc_region ?_
      refine xo_rd (rd_move rfl) rfl ?_
      refine xo_rd (rd_move rfl) rfl ?_
      refine xo_rd (rd_indexAddr rfl rfl (by omega) (by omega)) rfl ?_
      refine xo_rd (rd_fieldAddr rfl) rfl ?_
      refine xo_rd (rd_load1 rfl hc2) rfl ?_
      refine xo_ef rfl (ef_call rfl (XF.mono (XF.seg l x.l _ (xf_spoil (.slice x.p x.q.bd.length x.c) x.q.bd.length (ints .u8 x.q.bd) x.l hxo' (by omega))) ?_))
      rintro v L' ⟨rfl, xs', l', hO', rfl⟩
      refine xo_perm (perm_mv2 l' l (bls (xs.drop (i + 1))) G L0) ?_
      refine xo_nil ?_
      refine xq_block ?_
      refine xq_seq ?_
      refine xc_region ?_
      refine xo_rd (rd_move rfl) rfl ?_
      refine xo_rd (rd_addn rfl rfl (by omega) (by omega)) rfl ?_
      refine xo_rd (rd_assign rfl) rfl ?_
      refine xo_nil ?_
    exact xq_roundI (i + 1, l' ++ G) (by dsimp only; omega) (by dsimp only; omega) rfl (by repeat (first | exact keep_nil | refine keep_cons rfl ?_))
  · focus
      refine xc_seq ?_
      refine xc_seq ?_
      refine xc_region ?_
      refine xo_rd (rd_move rfl) rfl ?_
      refine xo_rd (rd_move rfl) rfl ?_
      refine xo_rd (rd_len rfl) rfl ?_
      refine xo_rd (rd_lss rfl rfl) rfl ?_
      refine xo_nil ?_
      refine xq_seq ?_
      refine xc_dec rfl (fun h1 => (by exfalso; omega)) (fun h1 => ?_)
      refine xc_exit ?_
      refine xq_then_exit ?_
      refine xq_then_exit ?_
      refine xq_block_hit ?_
      refine xq_block ?_
      refine xq_seq ?_
      refine xc_region ?_
      refine xo_rd (rd_move rfl) rfl ?_
      refine xo_rd (rd_addn rfl rfl (by omega) (by omega)) rfl ?_
      refine xo_rd (rd_assign rfl) rfl ?_
      refine xo_nil ?_
    exact xq_roundK rfl (t + 1) (by omega) (by omega) ((List.sublist_append_right G L0).trans ((List.sublist_append_right _ _).trans (List.sublist_append_right l _))) (by repeat (first | exact keep_nil | refine keep_cons rfl ?_))
end Go.Proofs.Ytohlaabclifbfaa.X
