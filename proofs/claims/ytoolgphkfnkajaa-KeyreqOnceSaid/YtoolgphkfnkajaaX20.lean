/-
  Words of my own for walks, twentieth part: four effects that come up together. No condition; generic over the program.
-/
import Derived.Test.YtoolgphkfnkajaaX19
namespace Go.Proofs.Ytoolgphkfnkajaa.X
open Go Go.RowKit
set_option linter.unusedVariables false
set_option linter.unusedSimpArgs false
section
variable {P : Program} {W : World} {n : Nat} {ops : Array Oper} {Q : Exit → Go.Act → World → Prop} {M L : List Blk} {pm tm : List Nat} {fuel m : Nat} {E : List (Nat × Value)}
theorem xm_four (i k l q : Nat) {mi mk ml mq : Nat} {d d2 d3 d4 : Option Nat} {op op2 op3 op4 : Op} {t t2 t3 t4 : TypeId} {pos pos2 pos3 pos4 : String} {after after2 after3 after4 : Array Edge} (hi : ops[i]? = some ⟨d, op, t, pos, after, none⟩) (hk : ops[k]? = some ⟨d2, op2, t2, pos2, after2, none⟩) (hl : ops[l]? = some ⟨d3, op3, t3, pos3, after3, none⟩) (hq : ops[q]? = some ⟨d4, op4, t4, pos4, after4, none⟩)
    (hr : readyM pm.zipIdx m = [i, k, l, q]) (hd : okd n d = true) (hd2 : okd n d2 = true) (hd3 : okd n d3 = true) (hd4 : okd n d4 = true) (hmi : m ||| (1 <<< i) = mi) (hmk : m ||| (1 <<< k) = mk) (hml : m ||| (1 <<< l) = ml) (hmq : m ||| (1 <<< q) = mq)
    (hv : EF P W n L E ⟨d, op, t, pos, after, none⟩ (fun v L' => Sb M L' ∧ XM P W n ops Q M pm tm fuel mi L' (pt E d v)))
    (hv2 : EF P W n L E ⟨d2, op2, t2, pos2, after2, none⟩ (fun v L' => Sb M L' ∧ XM P W n ops Q M pm tm fuel mk L' (pt E d2 v)))
    (hv3 : EF P W n L E ⟨d3, op3, t3, pos3, after3, none⟩ (fun v L' => Sb M L' ∧ XM P W n ops Q M pm tm fuel ml L' (pt E d3 v)))
    (hv4 : EF P W n L E ⟨d4, op4, t4, pos4, after4, none⟩ (fun v L' => Sb M L' ∧ XM P W n ops Q M pm tm fuel mq L' (pt E d4 v))) : XM P W n ops Q M pm tm (fuel + 1) m L E := .mk fun h1 h2 h3 listed hrp a w ha hw => by
  have hmem : ∀ j, j ∈ Region.ready .any ops listed ↔ j = i ∨ j = k ∨ j = l ∨ j = q := fun j => by
    rw [ready_readyM hrp, h1, hr]; simp
  refine ⟨fun h => ?_, fun j hj => ?_⟩
  · have := (hmem i).2 (.inl rfl)
    rw [h] at this; cases this
  · rcases (hmem j).1 hj with rfl | rfl | rfl | rfl
    · exact xm_step h1 h2 h3 hi hd hmi hrp hv ha hw
    · exact xm_step h1 h2 h3 hk hd2 hmk hrp hv2 ha hw
    · exact xm_step h1 h2 h3 hl hd3 hml hrp hv3 ha hw
    · exact xm_step h1 h2 h3 hq hd4 hmq hrp hv4 ha hw
end
section
variable {P : Program} {W : World} {n : Nat} {L : List Blk} {E : List (Nat × Value)} {d : Option Nat} {t : TypeId} {pos : String} {after : Array Edge} {g : Option (Nat × Bool)} {Q : Exit → Go.Act → World → Prop}
theorem rd_xor {T T' : Nat} {x y : Operand} {k : IntKind} {i j : Int} (hx : ev E x = some (.int k i)) (hy : ev E y = some (.int k j)) :
    RD P W n L E ⟨d, .binOp .xor T x y T', t, pos, after, g⟩ (.int k (bits .xor k i j)) := .mk fun a w ha hw => by
  simp [execOp, ha.eval hx, ha.eval hy, eqGuard, binOp, intBits_xor]
theorem xor8_by (x y : Int) : 0 ≤ bits .xor .u8 x y ∧ bits .xor .u8 x y ≤ 255 := by
  obtain ⟨z, hz⟩ : ∃ z, bits .xor .u8 x y = IntKind.u8.wrap z := ⟨_, rfl⟩
  rw [hz, wrap8]; omega
/-- A loop whose own blocks stay. -/
theorem xc_loopK {c : Code} {ι : Type} (I : ι → Prop) (μ : ι → Nat) (Es : ι → List (Nat × Value)) (i0 : ι) (h0 : I i0) (hE : ∀ i v, lk (Es i0) i = some v → lk E i = some v)
    (round : ∀ i, I i → XC P W n c (Exit.then (fun a w => ∃ j, I j ∧ μ j < μ i ∧ Env n a (Es j) ∧ Hp W w L) Q) L (Es i)) : XC P W n (.loop c) Q L E := xc_loopI I μ (fun _ => L) Es i0 h0 rfl hE round
theorem xq_roundK {ι : Type} {I : ι → Prop} {μ : ι → Nat} {Es : ι → List (Nat × Value)} {m : Nat} {L' : List Blk} {e : Exit} (he : e = .normal) (j : ι) (hj : I j) (hm : μ j < m) (hL : L'.Sublist L) (hE : ∀ k v, lk (Es j) k = some v → lk E k = some v) :
    XQ W n (Exit.then (fun a w => ∃ j, I j ∧ μ j < m ∧ Env n a (Es j) ∧ Hp W w L') Q) e L E := by
  subst he; exact xq_sub hL (xq_roundI (Ls := fun _ => L') j hj hm rfl hE)
end
end Go.Proofs.Ytoolgphkfnkajaa.X
