/-
  Words of my own for walks: a slice that is made, of elements of several cells. No condition; generic over the program.
-/
import Derived.Test.YtoolgphkfnkajaaX18
namespace Go.Proofs.Ytoolgphkfnkajaa.X
open Go Go.RowKit
set_option linter.unusedVariables false
section
variable {P : Program} {W : World} {n : Nat} {L : List Blk} {E : List (Nat × Value)} {d : Option Nat} {t : TypeId} {pos : String} {after : Array Edge} {g : Option (Nat × Bool)} {K : Value → List Blk → Prop}
theorem made_list (vs : List Value) (hs : 0 < vs.length) : ∀ (k : Nat), (madeCells vs.toArray (k * vs.length)).toList = (List.replicate k vs).flatMap id := by
  have key : ∀ (k : Nat), (List.range (k * vs.length)).map (fun i => vs.toArray[i % vs.toArray.size]!) = (List.replicate k vs).flatMap id := by
    intro k
    induction k with
    | zero => simp
    | succ k ih =>
      rw [Nat.succ_mul, Nat.add_comm, List.range_add, List.map_append, List.map_map, List.replicate_succ, List.flatMap_cons, ← ih]
      congr 1
      · apply List.ext_getElem
        · simp
        · intro i h1 h2
          have h3 : i < vs.length := by simpa using h1
          simp [Nat.mod_eq_of_lt h3, h3]
      · apply List.map_congr_left
        intro i hi
        simp [Function.comp]
  intro k
  unfold madeCells
  rw [Array.toList_map, Array.toList_range]
  exact key k
theorem ef_makeRows {T e bt s : Nat} {z : Value} {vs : List Value} {x y : Operand} {kl kc : IntKind} {l c : Int} [hT : Sl P T e] [hI : Inf P e z s bt] (hx : ev E x = some (.int kl l)) (hy : ev E y = some (.int kc c)) (hz : z.cells = vs.toArray) (hv : vs.length = s) (hs : 0 < s) (hs2 : s ≤ 100) (h0 : 0 ≤ l) (hlc : l ≤ c) (hc : c ≤ 100000) (hb : bt ≤ 1000000)
    (hk : ∀ r, K (.slice (some ⟨r, 0, none⟩) l.toNat c.toNat) ((r, .cells ((List.replicate c.toNat vs).flatMap id).toArray e (0, 0)) :: L)) : EF P W n L E ⟨d, .makeSlice T x y, t, pos, after, g⟩ K := by
  obtain ⟨i, h1, h2, h3, h4, h5⟩ := hI.h
  refine ef_of_new (v := fun r => .slice (some ⟨r, 0, none⟩) l.toNat c.toNat) (fun a w ha hw => ?_) hk
  have hb' : (i.bytes : Int) * c ≤ 281474976710656 := by
    rw [h4]
    have e1 : (bt : Int) * c ≤ 1000000 * c := Int.mul_le_mul_of_nonneg_right (by omega) (by omega)
    omega
  have hcs : c.toNat * s ≤ 16777216 := by
    have : c.toNat * s ≤ 100000 * 100 := Nat.mul_le_mul (by omega) hs2
    omega
  have hr := run_makeSlice (P := P) w T e i z hT.h h1 h2 kl kc l c h0 hlc (by rw [h3]; exact hcs) hb' (by omega)
  rw [h3, hz, ← hv] at hr
  have hm : madeCells vs.toArray (c.toNat * vs.length) = ((List.replicate c.toNat vs).flatMap id).toArray := Array.toList_inj.1 (by rw [made_list vs (by omega)])
  rw [hm] at hr
  simp [execOp, ha.eval hx, ha.eval hy, hr]
end
end Go.Proofs.Ytoolgphkfnkajaa.X
