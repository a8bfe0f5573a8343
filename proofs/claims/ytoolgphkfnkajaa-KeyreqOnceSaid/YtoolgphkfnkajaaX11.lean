/-
  Words of my own for walks, eleventh part: branches inside regions that draw, three results, segments of own blocks. No condition; generic over the program.
-/
import Derived.Test.YtoolgphkfnkajaaX8
import Derived.Test.YtoolgphkfnkajaaX9
import Derived.Test.YtoolgphkfnkajaaX10
namespace Go.Proofs.Ytoolgphkfnkajaa.X
open Go Go.RowKit
set_option linter.unusedVariables false
set_option linter.unusedSimpArgs false
section
variable {P : Program} {W : World} {n : Nat} {ops : Array Oper} {Q : Exit → Act → World → Prop} {M L : List Blk} {fuel : Nat} {listed : Array Bool} {E : List (Nat × Value)}
theorem xc_drawL {id : Nat} [hm : Mx P] (h : XR P W n ops Q L ops.size (Array.replicate ops.size false) L E) : XC P W n (.region id ops true) Q L E := xc_draw L h
theorem xr_dec (t : Nat) {p : Prop} [hd : Decidable p] (ht : lk E t = some (.bool (decide p))) (h1 : p → XR P W n ops Q M fuel listed L ((t, .bool true) :: E)) (h2 : ¬p → XR P W n ops Q M fuel listed L ((t, .bool false) :: E)) : XR P W n ops Q M fuel listed L E :=
  xr_split t ht (fun h => h1 (of_decide_eq_true h)) (fun h => h2 (of_decide_eq_false h))
theorem xr_ndec (t : Nat) {p : Prop} [hd : Decidable p] (ht : lk E t = some (.bool (!decide p))) (h1 : ¬p → XR P W n ops Q M fuel listed L ((t, .bool true) :: E)) (h2 : p → XR P W n ops Q M fuel listed L ((t, .bool false) :: E)) : XR P W n ops Q M fuel listed L E :=
  xr_split t ht (fun h => h1 (by simpa using h)) (fun h => h2 (by simpa using h))
theorem Sb.app0 {M R : List Blk} : Sb M (M ++ R) := ⟨R, List.Perm.refl _⟩
/-- What is held, looked for. -/
theorem Sb.a {M L : List Blk} (h : Sb M L := by first | exact Sb.refl | exact Sb.nil | (repeat (first | exact Sb.nil | exact Sb.refl | exact Sb.app0 | apply Sb.keep | apply Sb.keepApp | apply Sb.cons | apply Sb.app))) : Sb M L := h
theorem Sb.perm {M L L' : List Blk} (h : Sb M L) (hp : L'.Perm L) : Sb M L' := by
  obtain ⟨R, h1⟩ := h
  exact ⟨R, hp.trans h1⟩
theorem xrx_perm {L' : List Blk} (hp : L.Perm L') (h : Sb M L' ∧ XR P W n ops Q M fuel listed L' E) : Sb M L ∧ XR P W n ops Q M fuel listed L E := ⟨h.1.perm hp, xr_perm hp h.2⟩
theorem xrx_mid (A : List Blk) {p : Blk} {R : List Blk} (h : Sb M (A ++ p :: R) ∧ XR P W n ops Q M fuel listed (A ++ p :: R) E) : Sb M (p :: (A ++ R)) ∧ XR P W n ops Q M fuel listed (p :: (A ++ R)) E := xrx_perm List.perm_middle.symm h
theorem seg_perm (A S R : List Blk) : (A ++ (S ++ R)).Perm (S ++ (A ++ R)) := by
  rw [← List.append_assoc, ← List.append_assoc]
  exact List.perm_append_comm.append_right R
/-- The blocks that a function wants lie further in. -/
theorem XF.seg (A S R : List Blk) {f : FuncId} {args : Array Value} {K : Value → List Blk → Prop} (h : XF P W f args (S ++ (A ++ R)) K) : XF P W f args (A ++ (S ++ R)) K := h.perm (seg_perm A S R)
theorem xo_seg (A S R : List Blk) {rest : List Oper} (h : XO P W n ops Q rest (A ++ (S ++ R)) E) : XO P W n ops Q rest (S ++ (A ++ R)) E := xo_perm (seg_perm A S R).symm h
theorem xrx_seg (A S R : List Blk) (h : Sb M (A ++ (S ++ R)) ∧ XR P W n ops Q M fuel listed (A ++ (S ++ R)) E) : Sb M (S ++ (A ++ R)) ∧ XR P W n ops Q M fuel listed (S ++ (A ++ R)) E := xrx_perm (seg_perm A S R).symm h
end
theorem xq_ret3 {P : Program} {W : World} {L : List Blk} {K : Value → List Blk → Prop} {fn : Func} {n : Nat} {E : List (Nat × Value)} {t u s : Nat} {v x y : Value} {e : Exit} (he : e = .ret ∨ e = .normal) (hr : fn.results = #[.tmp t, .tmp u, .tmp s]) (ht : lk E t = some v) (hu : lk E u = some x) (hs : lk E s = some y) (h : K (.tuple #[v, x, y]) L) : XQ W n (bodyPost P fn (XP W K)) e L E :=
  xq_retg he (fun a w ha hw => by
    have h1 := ha.val t _ ht
    have h2 := ha.val u _ hu
    have h3 := ha.val s _ hs
    simp [results, hr, Array.getD_eq_getD_getElem?, h1, h2, h3]) h
end Go.Proofs.Ytoolgphkfnkajaa.X
