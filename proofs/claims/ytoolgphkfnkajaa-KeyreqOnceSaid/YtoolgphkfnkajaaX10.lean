/-
  Words of my own for walks, tenth part: a function whose contract stands for every world with no own blocks leaves any own blocks as they are. No condition; generic over the program.
-/
import Derived.Test.YtoolgphkfnkajaaX5
namespace Go.Proofs.Ytoolgphkfnkajaa.X
open Go Go.RowKit
set_option linter.unusedVariables false
theorem Hp.over {W w w' : World} {L L' : List Blk} (h : Hp W w L) (h' : Hp w w' L') : Hp W w' L :=
  ⟨h'.os.trans h.os, h'.tape.trans h.tape, h'.output.trans h.output, fun b o hb => h'.base b o (h.base b o hb), fun p hp => h'.base _ _ (h.own p hp), h.nod, h.hi⟩
theorem xf_any {P : Program} {W : World} {L : List Blk} {f : FuncId} {args : Array Value} {v0 : Value} (h : ∀ W, XF P W f args [] (fun v L' => v = v0)) : XF P W f args L (fun v L' => v = v0 ∧ L' = L) := .mk fun w hw =>
  Calls.mono ((h w).run w (Hp.start w)) fun e w' ⟨v, h1, L', h2, h3⟩ => ⟨v, h1, L, hw.over h2, h3, rfl⟩
/-- The own blocks as part of the base: what is known of a cell stays known. -/
theorem Cl.over {W w : World} {L : List Blk} {b i : Nat} {v : Value} (hw : Hp W w L) (h : Cl W L b i v) : Cl w [] b i v := by
  obtain ⟨vs, T, fr, hk, hi⟩ := h
  refine ⟨vs, T, fr, ?_, hi⟩
  rcases hk with hk | hk
  · exact .inl (hw.base _ _ hk)
  · exact .inl (hw.own _ hk)
section
variable {P : Program} {W : World} {n : Nat} {L : List Blk} {E : List (Nat × Value)} {d : Option Nat} {t : TypeId} {pos : String} {after : Array Edge} {g : Option (Nat × Bool)} {K : Value → List Blk → Prop}
/-- A slice built of parts of which it is known what they are. -/
theorem ef_buildL {T len : Nat} {parts : List (Nat × Operand)} {e s : Nat} {z : Value} {vs : List (Nat × Value)} {cells : Array Value} [hT : Sl P T e] [hS : Ts P e s] [h0 : T0 P e z] (hp : evp E parts = some vs) (hlen : len * s ≤ 16777216) (hpos : len * s ≠ 0)
    (hf : Instr.fill (fun i => some (i * s, s)) ((Array.range (len * s)).map (z.cells[· % z.cells.size]!)) vs = some cells)
    (hk : ∀ r, K (.slice (some ⟨r, 0, none⟩) len len) ((r, .cells cells e (0, 0)) :: L)) : EF P W n L E ⟨d, .buildSlice T len parts.toArray, t, pos, after, g⟩ K :=
  ef_buildSlice (z := z) (vs := vs.toArray) (fun a ha => by rw [List.map_toArray, ha.evalp hp]) hlen hpos hf hk
end
end Go.Proofs.Ytoolgphkfnkajaa.X
