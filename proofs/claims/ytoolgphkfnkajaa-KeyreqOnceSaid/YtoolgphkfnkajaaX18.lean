/-
  Words of my own for walks, eighteenth part: slices that are made; three effects that come up together; prefixes. No condition; generic over the program.
-/
import Derived.Test.YtoolgphkfnkajaaX14
import Derived.Laws.MakeOwn
namespace Go.Proofs.Ytoolgphkfnkajaa.X
open Go Go.RowKit
set_option linter.unusedVariables false
set_option linter.unusedSimpArgs false
section
variable {P : Program} {W : World} {n : Nat} {L : List Blk} {E : List (Nat × Value)} {d : Option Nat} {t : TypeId} {pos : String} {after : Array Edge} {g : Option (Nat × Bool)} {K : Value → List Blk → Prop}
theorem made_one (v : Value) (k : Nat) : madeCells #[v] k = (List.replicate k v).toArray := by
  apply Array.toList_inj.1
  unfold madeCells
  rw [Array.toList_map, Array.toList_range]
  apply List.ext_getElem
  · simp
  · intro i h1 h2
    simp only [List.getElem_map, List.getElem_range, List.getElem_replicate]
    simp [Nat.mod_one]
/-- A slice is made, of elements of one cell. -/
theorem ef_makeSlice {T e bt : Nat} {z v : Value} {x y : Operand} {kl kc : IntKind} {l c : Int} [hT : Sl P T e] [hI : Inf P e z 1 bt] (hx : ev E x = some (.int kl l)) (hy : ev E y = some (.int kc c)) (hz : z.cells = #[v]) (h0 : 0 ≤ l) (hlc : l ≤ c) (hc : c ≤ 16777216) (hb : bt ≤ 1000000)
    (hk : ∀ r, K (.slice (some ⟨r, 0, none⟩) l.toNat c.toNat) ((r, .cells (List.replicate c.toNat v).toArray e (0, 0)) :: L)) : EF P W n L E ⟨d, .makeSlice T x y, t, pos, after, g⟩ K := by
  obtain ⟨i, h1, h2, h3, h4, h5⟩ := hI.h
  refine ef_of_new (v := fun r => .slice (some ⟨r, 0, none⟩) l.toNat c.toNat) (fun a w ha hw => ?_) hk
  have hb' : (i.bytes : Int) * c ≤ 281474976710656 := by
    rw [h4]
    have e1 : (bt : Int) * c ≤ 1000000 * c := Int.mul_le_mul_of_nonneg_right (by omega) (by omega)
    omega
  have hr := run_makeSlice (P := P) w T e i z hT.h h1 h2 kl kc l c h0 hlc (by rw [h3]; omega) hb' (by omega)
  rw [h3, Nat.mul_one, hz, made_one] at hr
  simp [execOp, ha.eval hx, ha.eval hy, hr]
end
theorem Rs.take {W : World} {L : List Blk} {p : Option Addr} {xs : List Value} (h : Rs W L p xs) (k : Nat) : Rs W L p (xs.take k) := fun j u hj => h j u (by
  rw [List.getElem?_take] at hj
  split at hj
  · exact hj
  · cases hj)
section
variable {P : Program} {W : World} {n : Nat} {ops : Array Oper} {Q : Exit → Go.Act → World → Prop} {M L : List Blk} {pm tm : List Nat} {fuel m : Nat} {E : List (Nat × Value)}
theorem xm_three (i k l : Nat) {mi mk ml : Nat} {d d2 d3 : Option Nat} {op op2 op3 : Op} {t t2 t3 : TypeId} {pos pos2 pos3 : String} {after after2 after3 : Array Edge} (hi : ops[i]? = some ⟨d, op, t, pos, after, none⟩) (hk : ops[k]? = some ⟨d2, op2, t2, pos2, after2, none⟩) (hl : ops[l]? = some ⟨d3, op3, t3, pos3, after3, none⟩)
    (hr : readyM pm.zipIdx m = [i, k, l]) (hd : okd n d = true) (hd2 : okd n d2 = true) (hd3 : okd n d3 = true) (hmi : m ||| (1 <<< i) = mi) (hmk : m ||| (1 <<< k) = mk) (hml : m ||| (1 <<< l) = ml)
    (hv : EF P W n L E ⟨d, op, t, pos, after, none⟩ (fun v L' => Sb M L' ∧ XM P W n ops Q M pm tm fuel mi L' (pt E d v)))
    (hv2 : EF P W n L E ⟨d2, op2, t2, pos2, after2, none⟩ (fun v L' => Sb M L' ∧ XM P W n ops Q M pm tm fuel mk L' (pt E d2 v)))
    (hv3 : EF P W n L E ⟨d3, op3, t3, pos3, after3, none⟩ (fun v L' => Sb M L' ∧ XM P W n ops Q M pm tm fuel ml L' (pt E d3 v))) : XM P W n ops Q M pm tm (fuel + 1) m L E := .mk fun h1 h2 h3 listed hrp a w ha hw => by
  have hmem : ∀ j, j ∈ Region.ready .any ops listed ↔ j = i ∨ j = k ∨ j = l := fun j => by
    rw [ready_readyM hrp, h1, hr]; simp
  refine ⟨fun h => ?_, fun j hj => ?_⟩
  · have := (hmem i).2 (.inl rfl)
    rw [h] at this; cases this
  · rcases (hmem j).1 hj with rfl | rfl | rfl
    · exact xm_step h1 h2 h3 hi hd hmi hrp hv ha hw
    · exact xm_step h1 h2 h3 hk hd2 hmk hrp hv2 ha hw
    · exact xm_step h1 h2 h3 hl hd3 hml hrp hv3 ha hw
end
end Go.Proofs.Ytoolgphkfnkajaa.X
