/-
  Words of my own for walks, seventeenth part: a region that draws, in a round. No condition; generic over the program.
-/
import Derived.Test.YtoolgphkfnkajaaX16
import Derived.OrdersIn
namespace Go.Proofs.Ytoolgphkfnkajaa.X
open Go Go.RowKit
set_option linter.unusedVariables false
set_option linter.unusedSimpArgs false
/-- Asked at the plain end alone. -/
def QN (Q : Exit → Go.Act → World → Prop) : Exit → Go.Act → World → Prop := fun e a w => e = .normal ∧ Q .normal a w
theorem rowsIn_inRound {P : Program} {row : String} {args : Array Value} {w : World} {R : Value → World → Prop} {l n : Nat} (h : Rows P row args w R) : RowsIn (Fence.wide.inRound l) n P row args w R := fun c cs _ =>
  let ⟨v, w', r, s⟩ := h c cs
  ⟨v, w', r, by rw [fenced_inRound]; exact stepsIn_wide.2 s⟩
theorem upon_inRound {P : Program} {o : Oper} {a : Go.Act} {w : World} {l : Nat} {Q : Exit → Go.Act → World → Prop} {K K' : Go.Act → World → Prop} (hnd : ∀ c, o.op ≠ .defer c) (hK : ∀ a w, K a w → K' a w)
    (h : o.wp P a w K (NoPanic (QN Q))) : o.wpIn (Fence.wide.inRound l) 0 P a w K' Q := by
  refine ⟨fun f _ => trivial, ?_⟩
  rw [Oper.semAt_eq _ _ _ hnd]
  unfold Oper.wp at h
  generalize (execOp a.eval o).run P w = r at *
  have hd : ¬ (Fence.wide.inRound l).depth.isSome = true := by simp [Fence.wide]
  cases r with
  | ok x w' =>
    cases x with
    | value v => exact hK _ _ h
    | skip => exact hK _ _ h
    | defer d => exact hK _ _ h
    | enter f args =>
      refine ⟨fun h => absurd h hd, CallsIn.inRound l (callsIn_wide.2 (Calls.mono h fun e w'' he => ?_))⟩
      cases e with
      | returned v => exact hK _ _ he
      | panicked ch => exact (show False from he).elim
      | outgrown => obtain ⟨a1, w1, h1⟩ := he; exact absurd h1.1 (by simp)
    | row row args => exact ⟨fun h => absurd h hd, rowsIn_inRound (Rows.mono h fun v w' hv => hK _ _ hv)⟩
    | _ => exact (show False from h).elim
  | halt x w' =>
    cases x with
    | panic v => exact (show False from h).elim
    | _ => exact (show False from h).elim
theorem anyIn_of_any {P : Program} {ops : Array Oper} {l : Nat} {Q : Exit → Go.Act → World → Prop} (hnd : ∀ (i : Nat) (o : Oper), ops[i]? = some o → ∀ c, o.op ≠ .defer c) : ∀ (fuel : Nat) (listed : Array Bool) (a : Go.Act) (w : World), wpAny P .any ops (NoPanic (QN Q)) fuel listed a w → wpAnyIn (Fence.wide.inRound l) 0 P .any ops Q fuel listed a w
  | 0, listed, a, w, h => ⟨h.1, (show QN Q .normal a w from h.2).2⟩
  | fuel + 1, listed, a, w, h => by
    refine ⟨fun hr => (show QN Q .normal a w from h.1 hr).2, fun i hi => ?_⟩
    have h1 := h.2 i hi
    have ih := anyIn_of_any (P := P) (l := l) (Q := Q) hnd fuel (listed.setIfInBounds i true)
    unfold wpOp at h1
    unfold wpOpIn
    cases ho : ops[i]? with
    | none => rw [ho] at h1; exact ih _ _ h1
    | some o =>
      rw [ho] at h1
      simp only at h1 ⊢
      by_cases hw : Region.wanted o (yielded ops a.tmps) = true
      · rw [if_pos hw] at h1 ⊢
        rcases h1 with h1 | ⟨_, a1, w1, h2⟩
        · exact upon_inRound (hnd i o ho) ih h1
        · exact absurd h2.1 (by simp)
      · rw [if_neg hw] at h1 ⊢
        exact ⟨fun f _ => trivial, ih _ _ h1⟩
def noDefer (ops : List Oper) : Bool := ops.all fun o => match o.op with | .defer _ => false | _ => true
section
variable {P : Program} {W : World} {n : Nat} {Q : Exit → Go.Act → World → Prop} {L : List Blk} {E : List (Nat × Value)} {ops : Array Oper}
theorem xci_drawM (pm tm : List Nat) (M : List Blk) {l id : Nat} [hm : Mx P] (h0 : noDefer ops.toList = true) (h1 : pmOf ops = pm) (h2 : tmOf ops = tm) (h3 : Region.noSelect ops = true) (h : XM P W n ops (QN Q) M pm tm ops.size 0 L E) : XCI (Fence.wide.inRound l) 0 [] P W n (.region id ops true) Q L E := .mk fun a w ha hw => by
  rw [Act.ds_nil ha]
  refine wpIn_region_any hm.h (anyIn_of_any ?_ _ _ _ _ (wpAny_of_held _ _ _ _ (h.run h1 h2 h3 _ (Rep.start _) a _ ha hw.drew)))
  intro i o ho c hc
  have hmem : o ∈ ops.toList := List.mem_of_getElem? (by rw [Array.getElem?_toList]; exact ho)
  have := List.all_eq_true.1 h0 o hmem
  rw [hc] at this
  cases this
theorem xci_drawML (pm tm : List Nat) {l id : Nat} [hm : Mx P] (h0 : noDefer ops.toList = true) (h1 : pmOf ops = pm) (h2 : tmOf ops = tm) (h3 : Region.noSelect ops = true) (h : XM P W n ops (QN Q) L pm tm ops.size 0 L E) : XCI (Fence.wide.inRound l) 0 [] P W n (.region id ops true) Q L E := xci_drawM pm tm L h0 h1 h2 h3 h
theorem xq_qn (h : XQ W n Q .normal L E) : XQ W n (QN Q) .normal L E := .mk fun a w ha hw => ⟨rfl, h.run a w ha hw⟩
theorem xci_perm {F : Fence} {m : Nat} {ds : List Deferred} {c : Code} {L' : List Blk} (hp : L.Perm L') (h : XCI F m ds P W n c Q L' E) : XCI F m ds P W n c Q L E := .mk fun a w ha hw => h.run a w ha (hw.perm hp)
theorem xi_perm {F : Fence} {m : Nat} {ds : List Deferred} {rest : List Oper} {L' : List Blk} (hp : L.Perm L') (h : XI F m ds P W n ops Q rest L' E) : XI F m ds P W n ops Q rest L E := .mk fun a w ha hw => h.run a w ha (hw.perm hp)
end
end Go.Proofs.Ytoolgphkfnkajaa.X
