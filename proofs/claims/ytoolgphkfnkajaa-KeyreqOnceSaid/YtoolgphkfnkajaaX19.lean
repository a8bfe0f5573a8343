/-
  Words of my own for walks, nineteenth part: slices of slices, whatever they point to; bit operations as arithmetic. No condition; generic over the program.
-/
import Derived.Test.YtoolgphkfnkajaaX18
namespace Go.Proofs.Ytoolgphkfnkajaa.X
open Go Go.RowKit
set_option linter.unusedVariables false
set_option linter.unusedSimpArgs false
/-- Where a slice from l on points. -/
def slp (p : Option Addr) (cap l s : Nat) : Option Addr := if cap = l then p else p.map (·.add (l * s))
section
variable {P : Program} {W : World} {n : Nat} {L : List Blk} {E : List (Nat × Value)} {d : Option Nat} {t : TypeId} {pos : String} {after : Array Edge} {g : Option (Nat × Bool)}
theorem addr_add_zero (a : Addr) : a.add 0 = a := by cases a; rfl
theorem rd_slHi {T e len cap m : Nat} {p : Option Addr} {x hi : Operand} {k : IntKind} {j : Int} [hT : Sl P T e] [hS : Ts P e m] (hx : ev E x = some (.slice p len cap)) (hh : ev E hi = some (.int k j))
    (h0 : 0 ≤ j) (h2 : j ≤ cap) :
    RD P W n L E ⟨d, .slice T x none (some hi) none, t, pos, after, g⟩ (.slice p j.toNat cap) := .mk fun a w ha hw => by
  have hB := hS.h w
  have hp : p.map (fun a : Addr => a.add 0) = p := by cases p with
    | none => rfl
    | some a => show some (a.add 0) = some a; rw [addr_add_zero]
  simp [execOp, ha.eval hx, ha.eval hh, Instr.sliceAt, Instr.slice, Instr.sliceBounds, Instr.sliceBound, run_underlying hT.h, asIntOf, hB, h0, h2, hp]
theorem rd_slLo {T e len cap m : Nat} {p : Option Addr} {x lo : Operand} {k : IntKind} {i : Int} [hT : Sl P T e] [hS : Ts P e m] (hx : ev E x = some (.slice p len cap)) (hl : ev E lo = some (.int k i))
    (h0 : 0 ≤ i) (h1 : i ≤ len) :
    RD P W n L E ⟨d, .slice T x (some lo) none none, t, pos, after, g⟩ (.slice (slp p cap i.toNat m) (len - i.toNat) (cap - i.toNat)) := .mk fun a w ha hw => by
  have hB := hS.h w
  simp [execOp, ha.eval hx, ha.eval hl, Instr.sliceAt, Instr.slice, Instr.sliceBounds, Instr.sliceBound, run_underlying hT.h, asIntOf, hB, h0, h1, slp]
theorem rd_slLH {T e len cap m : Nat} {p : Option Addr} {x lo hi : Operand} {k k' : IntKind} {i j : Int} [hT : Sl P T e] [hS : Ts P e m] (hx : ev E x = some (.slice p len cap)) (hl : ev E lo = some (.int k i)) (hh : ev E hi = some (.int k' j))
    (h0 : 0 ≤ i) (h1 : i ≤ j) (h2 : j ≤ cap) :
    RD P W n L E ⟨d, .slice T x (some lo) (some hi) none, t, pos, after, g⟩ (.slice (slp p cap i.toNat m) (j.toNat - i.toNat) (cap - i.toNat)) := .mk fun a w ha hw => by
  have hB := hS.h w
  have e1 : 0 ≤ j := by omega
  have e3 : i ≤ (j.toNat : Int) := by omega
  simp [execOp, ha.eval hx, ha.eval hl, ha.eval hh, Instr.sliceAt, Instr.slice, Instr.sliceBounds, Instr.sliceBound, run_underlying hT.h, asIntOf, hB, h0, h1, h2, e1, e3, slp]
  intro hc; omega
theorem rd_andNot {T T' : Nat} {x y : Operand} {k : IntKind} {i j : Int} (hx : ev E x = some (.int k i)) (hy : ev E y = some (.int k j)) :
    RD P W n L E ⟨d, .binOp .andNot T x y T', t, pos, after, g⟩ (.int k (k.wrap (BitVec.ofInt k.bits i &&& ~~~(BitVec.ofInt k.bits j)).toNat)) := .mk fun a w ha hw => by
  simp [execOp, ha.eval hx, ha.eval hy, eqGuard, binOp, Op.intBits]
end
theorem Rs.slp {W : World} {L : List Blk} {p : Option Addr} {xs : List Value} (h : Rs W L p xs) (cap l : Nat) (hc : xs.length ≤ cap) : Rs W L (slp p cap l 1) (xs.drop l) := by
  unfold X.slp
  split
  · rename_i he
    rw [List.drop_eq_nil_of_le (by omega)]
    exact Rs.nil
  · cases p with
    | none => rw [h.none_nil]; simp; exact Rs.nil
    | some a =>
      by_cases h0 : xs.length = 0
      · rw [List.length_eq_zero_iff.1 h0]; simp; exact Rs.nil
      · obtain ⟨b, o, ha, _⟩ := h 0 _ (List.getElem?_eq_getElem (by omega))
        simp only [Option.some.injEq] at ha
        subst ha
        rw [Nat.mul_one]
        show Rs W L (some ((⟨b, o, none⟩ : Addr).add l)) _
        rw [add_zero']
        exact h.drop l
/-! ### bits -/
theorem wrap8 (x : Int) : IntKind.u8.wrap x = x % 256 := rfl
theorem wrap16 (x : Int) : IntKind.u16.wrap x = x % 65536 := rfl
theorem wrap32 (x : Int) : IntKind.u32.wrap x = x % 4294967296 := rfl
theorem u8_ind {p : Int → Prop} (h : ∀ n : Fin 256, p n.val) (x : Int) (h0 : 0 ≤ x) (h1 : x ≤ 255) : p x := by
  obtain ⟨n, rfl⟩ := Int.eq_ofNat_of_zero_le h0
  exact h ⟨n, by omega⟩
theorem and8_15 (x : Int) (h0 : 0 ≤ x) (h1 : x ≤ 255) : bits .and .u8 x 15 = x % 16 := u8_ind (p := fun x => bits .and .u8 x 15 = x % 16) (by decide +kernel) x h0 h1
theorem and8_128 (x : Int) (h0 : 0 ≤ x) (h1 : x ≤ 255) : bits .and .u8 x 128 = if 128 ≤ x then 128 else 0 := u8_ind (p := fun x => bits .and .u8 x 128 = if 128 ≤ x then 128 else 0) (by decide +kernel) x h0 h1
theorem and8_16 (x : Int) (h0 : 0 ≤ x) (h1 : x ≤ 255) : bits .and .u8 x 16 = x / 16 % 2 * 16 := u8_ind (p := fun x => bits .and .u8 x 16 = x / 16 % 2 * 16) (by decide +kernel) x h0 h1
theorem and8_32 (x : Int) (h0 : 0 ≤ x) (h1 : x ≤ 255) : bits .and .u8 x 32 = x / 32 % 2 * 32 := u8_ind (p := fun x => bits .and .u8 x 32 = x / 32 % 2 * 32) (by decide +kernel) x h0 h1
theorem andNot8_128 (x : Int) (h0 : 0 ≤ x) (h1 : x ≤ 255) : IntKind.u8.wrap (BitVec.ofInt IntKind.u8.bits x &&& ~~~(BitVec.ofInt IntKind.u8.bits 128)).toNat = x % 128 := u8_ind (p := fun x => IntKind.u8.wrap (BitVec.ofInt IntKind.u8.bits x &&& ~~~(BitVec.ofInt IntKind.u8.bits 128)).toNat = x % 128) (by decide +kernel) x h0 h1
/-- A byte is put behind a number. -/
theorem or32 (a c : Int) (h0 : 0 ≤ a) (h1 : a * 256 ≤ 4294967295) (h2 : 0 ≤ c) (h3 : c ≤ 255) : bits .or .u32 (a * 256) c = a * 256 + c := by
  obtain ⟨n, rfl⟩ := Int.eq_ofNat_of_zero_le h0
  obtain ⟨k, rfl⟩ := Int.eq_ofNat_of_zero_le h2
  have e1 : (BitVec.ofInt IntKind.u32.bits ((n : Int) * 256) ||| BitVec.ofInt IntKind.u32.bits (k : Int)).toNat = n * 256 + k := by
    rw [BitVec.toNat_or]
    have a1 : (BitVec.ofInt IntKind.u32.bits ((n : Int) * 256)).toNat = n * 256 := by
      rw [show ((n : Int) * 256) = ((n * 256 : Nat) : Int) from by omega, BitVec.ofInt_natCast, BitVec.toNat_ofNat]
      exact Nat.mod_eq_of_lt (by show n * 256 < 4294967296; omega)
    have a2 : (BitVec.ofInt IntKind.u32.bits (k : Int)).toNat = k := by
      rw [BitVec.ofInt_natCast, BitVec.toNat_ofNat]
      exact Nat.mod_eq_of_lt (by show k < 4294967296; omega)
    rw [a1, a2, Nat.mul_comm n 256]
    exact (Nat.two_pow_add_eq_or_of_lt (i := 8) (b := k) (by omega) n).symm.trans (by omega)
  show IntKind.u32.wrap ((BitVec.ofInt IntKind.u32.bits ((n : Int) * 256) ||| BitVec.ofInt IntKind.u32.bits (k : Int)).toNat) = _
  rw [e1, wrap32]
  omega
end Go.Proofs.Ytoolgphkfnkajaa.X
