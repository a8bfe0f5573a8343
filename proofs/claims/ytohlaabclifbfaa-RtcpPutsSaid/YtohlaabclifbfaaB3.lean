/-
  Numbers and noughts are written: walks of my own.
-/
import Derived.Test.YtohlaabclifbfaaB2
namespace Go.Proofs.Ytohlaabclifbfaa.X
open Go Go.RowKit
set_option linter.unusedVariables false
set_option linter.unusedSimpArgs false
section
variable {P : Program} {W : World} {n : Nat} {L : List Blk} {E : List (Nat × Value)} {d : Option Nat} {t : TypeId} {pos : String} {after : Array Edge} {g : Option (Nat × Bool)}
/-- The whole of an array, as a slice. -/
theorem rd_slArr {T e len b m : Nat} {x : Operand} [hT : Ar P T len e] [hS : Ts P e m] (hx : ev E x = some (.pointer (some ⟨b, 0, none⟩))) (hl : len ≠ 0) :
    RD P W n L E ⟨d, .slice T x none none none, t, pos, after, g⟩ (.slice (some ⟨b, 0, none⟩) len len) := .mk fun a w ha hw => by
  have hB := hS.h w
  simp [execOp, ha.eval hx, Instr.sliceAt, Instr.sliceBounds, Instr.sureAddr, run_underlying hT.h, hB, hl, add_zero']
end
theorem rd_buildArr {P : Program} {W : World} {n : Nat} {L : List Blk} {E : List (Nat × Value)} {d : Option Nat} {t : TypeId} {pos : String} {after : Array Edge} {g : Option (Nat × Bool)} {T len e s : Nat} {parts : List (Nat × Operand)} {us : List (Nat × Value)} {z : Value} {cells : Array Value} [hT : Ar P T len e] [hS : Ts P e s] [h0 : T0 P T z] (hp : evp E parts = some us) (hf : Instr.fill (fun i => some (i * s, s)) z.cells us = some cells) :
    RD P W n L E ⟨d, .build T parts.toArray, t, pos, after, g⟩ (.agg cells) := .mk fun a w ha hw => by
  have hB := hS.h w
  have hz := h0.h w
  have he := ha.evalp hp
  simp only [execOp, Instr.build, Sem.run_bind, hz, Result.andThen_ok, run_underlying hT.h, hB, List.map_toArray, he, hf]
  rfl
theorem flat4_len (l : List Int) : (l.flatMap be4).length = 4 * l.length := by
  induction l with
  | nil => rfl
  | cons a r ih => rw [List.flatMap_cons, List.length_append, ih]; simp [be4]; omega
theorem be4_by (n : Int) : ∀ x, x ∈ be4 n → By x := fun x h => by
  simp only [be4, List.mem_cons, List.not_mem_nil, or_false] at h
  unfold By
  rcases h with rfl | rfl | rfl | rfl <;> omega
structure LgS where
  i : Nat
  s : Option Addr
  k : Nat
  l : List Blk
set_option maxHeartbeats 2000000 in
theorem xf_long {W : World} {L : List Blk} (p : Option Addr) (n c : Nat) (ns : List Int) (hx : ns.length = n) (hr : Rs W L p (ints .u32 ns)) (hb : ∀ x, x ∈ ns → U4 x) (hn : n ≤ 1000000) :
    XF Try.prog W 56 #[.slice p n c] L (fun v L' => ∃ s k l, v = .slice s (4 * n) k ∧ SlO 1 5 (.slice s (4 * n) k) (4 * n) (ints .u8 (ns.flatMap be4)) l ∧ L' = l ++ L) := by
  refine xf_enter (args := [_]) Try.func56 rfl Try.ntmps56 rfl ?_
  focus
    refine xc_seq ?_
    refine xc_region ?_
    refine xo_rd (rd_assign rfl) rfl ?_
    refine xo_nil ?_
    refine xq_seq ?_
    refine xc_seq ?_
    refine xc_seq ?_
    refine xc_region ?_
    refine xo_rd (rd_move rfl) rfl ?_
    refine xo_rd (rd_len rfl) rfl ?_
    refine xo_rd (rd_move rfl) rfl ?_
    refine xo_nil ?_
    refine xq_seq ?_
    refine xc_block ?_
  refine xc_loopI (ι := LgS) (fun z => z.i ≤ n ∧ SlO 1 5 (.slice z.s (4 * z.i) z.k) (4 * z.i) (ints .u8 ((ns.take z.i).flatMap be4)) z.l) (fun z => n - z.i) (fun z => z.l ++ L) (fun z => [(2, .slice z.s (4 * z.i) z.k), (6, .slice p n c), (7, .int .i64 n), (8, .int .i64 z.i)]) ⟨0, none, 0, []⟩ ⟨Nat.zero_le _, SlO.nil⟩ rfl (by repeat (first | exact keep_nil | refine keep_cons rfl ?_)) ?_
  rintro ⟨i, s, k, l⟩ ⟨hi, hO⟩
  dsimp only at hi hO ⊢
  by_cases hin : i < n
  · obtain ⟨b, o, hp, hc⟩ := hr.int (i := i) (by omega)
    subst hp
    have hu := hb ns[i] (List.getElem_mem _)
    have e1 : ns.take (i + 1) = ns.take i ++ [ns[i]] := by rw [List.take_add_one, List.getElem?_eq_getElem (by omega)]; rfl
    generalize ns[i] = z at *
    unfold U4 at hu
    have hc' : ∀ L', (∀ z, z ∈ L → z ∈ L') → Cl W L' b (o + (i : Int).toNat * 1) (.int .u32 z) := fun L' h => hc.mono h
    focus
      refine xc_seq ?_
      refine xc_region ?_
      refine xo_rd (rd_lss rfl rfl) rfl ?_
      refine xo_nil ?_
      refine xq_seq ?_
      refine xc_seq ?_
      refine xc_dec rfl (fun hq1 => ?_) (fun hq1 => (by exfalso; omega))
      refine xc_skip ?_
      refine xq_seq ?_
      refine xc_seq ?_
      refine xc_block ?_
      refine xc_seq ?_
      refine xc_region ?_
      refine xo_rd (rd_indexAddr rfl rfl (by omega) (by omega)) rfl ?_
      refine xo_rd (rd_load1 rfl (hc' _ (by intro z hz; simp [hz]))) rfl ?_
      refine xo_rd (rd_assign rfl) rfl ?_
      refine xo_nil ?_
      refine xq_seq ?_
      refine xc_seq ?_
      refine xc_region ?_
      refine xo_rd (rd_move rfl) rfl ?_
      refine xo_rd (rd_cast (v' := .int .u32 (z / 16777216)) (rd_shr rfl rfl (by decide) (by decide)) rfl) rfl ?_
      refine xo_rd (rd_cast (v' := .int .u8 (z / 16777216 % 256)) (rd_conv rfl) (congrArg (Value.int .u8) (wrap8 (z / 16777216)))) rfl ?_
      refine xo_rd (rd_move rfl) rfl ?_
      refine xo_rd (rd_cast (v' := .int .u32 (z / 65536)) (rd_shr rfl rfl (by decide) (by decide)) rfl) rfl ?_
      refine xo_rd (rd_cast (v' := .int .u8 (z / 65536 % 256)) (rd_conv rfl) (congrArg (Value.int .u8) (wrap8 (z / 65536)))) rfl ?_
      refine xo_rd (rd_move rfl) rfl ?_
      refine xo_rd (rd_cast (v' := .int .u32 (z / 256)) (rd_shr rfl rfl (by decide) (by decide)) rfl) rfl ?_
      refine xo_rd (rd_cast (v' := .int .u8 (z / 256 % 256)) (rd_conv rfl) (congrArg (Value.int .u8) (wrap8 (z / 256)))) rfl ?_
      refine xo_rd (rd_move rfl) rfl ?_
      refine xo_rd (rd_cast (v' := .int .u8 (z % 256)) (rd_conv rfl) (congrArg (Value.int .u8) (wrap8 z))) rfl ?_
      refine xo_rd (rd_buildArr (cells := (ints .u8 (be4 z)).toArray) rfl (by kernel_rfl)) rfl ?_
      refine xo_ef rfl (ef_alloc fun r5 => ?_)
      refine xo_ef rfl (ef_storeB [] _ rfl rfl (by first | rfl | assumption) rfl rfl rfl ?_)
      refine xo_nil ?_
      refine xq_seq ?_
      refine xc_region ?_
      refine xo_rd (rd_move rfl) rfl ?_
      refine xo_rd (rd_slArr rfl (by decide)) rfl ?_
      refine xo_ef rfl (ef_appendG [(r5, .cells (ints .u8 (be4 z)).toArray 131 (0, 0))] L l (news := ints .u8 (be4 z)) rfl rfl hO rfl (Rs.fresh (List.Mem.head _)) rfl rfl (by decide) (by omega) (by omega) fun s' k' l' hO' hk' => ?_)
      refine xo_rd (rd_assign rfl) rfl ?_
      refine xo_nil ?_
      refine xq_block ?_
      refine xq_seq ?_
      refine xc_region ?_
      refine xo_rd (rd_addn rfl rfl (by omega) (by omega)) rfl ?_
      refine xo_rd (rd_move rfl) rfl ?_
      refine xo_nil ?_
    refine xq_roundI (⟨i + 1, s', k', l'⟩ : LgS) ⟨by dsimp only; omega, ?_⟩ (by dsimp only; omega) rfl (by repeat (first | exact keep_nil | refine keep_cons rfl ?_))
    dsimp only
    rw [e1, List.flatMap_append, List.flatMap_singleton, ints_app]
    exact hO'
  · focus
      refine xc_seq ?_
      refine xc_region ?_
      refine xo_rd (rd_lss rfl rfl) rfl ?_
      refine xo_nil ?_
      refine xq_seq ?_
      refine xc_seq ?_
      refine xc_dec rfl (fun h1 => (by exfalso; omega)) (fun h1 => ?_)
      refine xc_exit ?_
      refine xq_then_exit ?_
      refine xq_then_exit ?_
      refine xq_block_hit ?_
      refine xq_seq ?_
      refine xc_seq ?_
      refine xc_region ?_
      refine xo_rd (rd_move rfl) rfl ?_
      refine xo_rd (rd_assign rfl) rfl ?_
      refine xo_nil ?_
      refine xq_seq ?_
      refine xc_ret ?_
    obtain rfl : i = n := by omega
    rw [List.take_of_length_le (by omega)] at hO
    exact xq_ret1 (.inl rfl) Try.results56 rfl ⟨s, k, l, rfl, hO, rfl⟩
theorem and64_3 (m : Nat) (h : m ≤ 1000000000000) : bits .and .i64 (-(m : Int)) 3 = (((4 - m % 4) % 4 : Nat) : Int) := by
  have e1 : (BitVec.ofInt 64 (-(m : Int)) &&& BitVec.ofInt 64 3).toNat = (4 - m % 4) % 4 := by
    rw [BitVec.toNat_and, BitVec.toNat_ofInt, show (BitVec.ofInt 64 3).toNat = 2 ^ 2 - 1 from by decide, Nat.and_two_pow_sub_one_eq_mod]
    omega
  show IntKind.i64.wrap ((BitVec.ofInt 64 (-(m : Int)) &&& BitVec.ofInt 64 3).toNat : Int) = _
  rw [e1, IntKind.wrap_i64]
  omega
section
variable {P : Program} {W : World} {n : Nat} {L : List Blk} {E : List (Nat × Value)} {d : Option Nat} {t : TypeId} {pos : String} {after : Array Edge} {g : Option (Nat × Bool)}
theorem rd_neg {T : Nat} {x : Operand} {k : IntKind} {i : Int} (hx : ev E x = some (.int k i)) :
    RD P W n L E ⟨d, .unOp .neg T x, t, pos, after, g⟩ (.int k (k.wrap (-i))) := .mk fun a w ha hw => by
  simp [execOp, ha.eval hx, Op.unary, Op.intArith]
end
theorem ints_rep (k : IntKind) (m : Nat) (x : Int) : ints k (List.replicate m x) = List.replicate m (.int k x) := by simp [ints]
theorem xf_filled {W : World} {L : List Blk} (v : Value) (m : Nat) (xs : List Int) (l : List Blk) (hO : SlO 1 5 v m (ints .u8 xs) l) (hm : m ≤ 1000000000000) :
    XF Try.prog W 57 #[v] (l ++ L) (fun v L' => ∃ s k l', v = .slice s (m + (4 - m % 4) % 4) k ∧ SlO 1 5 (.slice s (m + (4 - m % 4) % 4) k) (m + (4 - m % 4) % 4) (ints .u8 (xs ++ List.replicate ((4 - m % 4) % 4) 0)) l' ∧ L' = l' ++ L) := by
  refine xf_enter (args := [_]) Try.func57 rfl Try.ntmps57 rfl ?_
  obtain ⟨s, k, rfl, hO, hk⟩ := hO.opn
  focus
    refine xc_seq ?_
    refine xc_region ?_
    refine xo_rd (rd_assign rfl) rfl ?_
    refine xo_nil ?_
    refine xq_seq ?_
    refine xc_seq ?_
    refine xc_region ?_
    refine xo_rd (rd_move rfl) rfl ?_
    refine xo_rd (rd_move rfl) rfl ?_
    refine xo_rd (rd_len rfl) rfl ?_
    refine xo_rd (rd_cast (v' := .int .i64 (-(m : Int))) (rd_neg rfl) (congrArg (Value.int .i64) (KB.h _ (by omega) (by omega)))) rfl ?_
    refine xo_rd (rd_cast (v' := .int .i64 (((4 - m % 4) % 4 : Nat) : Int)) (rd_and rfl rfl) (congrArg (Value.int .i64) (and64_3 m hm))) rfl ?_
    refine xo_ef rfl (ef_appendZ [] L l ((4 - m % 4) % 4) rfl rfl rfl hO rfl rfl rfl (by omega) (by omega) fun s' k' l' hO' hk' => ?_)
    refine xo_rd (rd_assign rfl) rfl ?_
    refine xo_nil ?_
    refine xq_seq ?_
    refine xc_ret ?_
  refine xq_ret1 (.inl rfl) Try.results57 rfl ⟨s', k', l', rfl, ?_, rfl⟩
  rw [ints_app, ints_rep]
  exact hO'
end Go.Proofs.Ytohlaabclifbfaa.X
