/-
  KeyreqKnown: the examples of the chapter, calls by numbers, ticks about the greatest one; a closed statement, no condition.
-/
import Derived.Test.YtoolgphkfnkajaaM9
import Derived.Test.YtoolgphkfnkajaaRows
namespace Go.Proofs.Ytoolgphkfnkajaa.X
open Go Go.RowKit
theorem known (W : World) : XF Try.prog W 5 #[] [] (fun v L' => v = .bool true) := xf_KeyreqKnown
end Go.Proofs.Ytoolgphkfnkajaa.X
namespace Go.Proofs.Ytoolgphkfnkajaa.keyreqKnown
open Go.ChangeShapes Go.WideShapes Go.ChangeAt Go.RowKit Go.Proofs.Ytoolgphkfnkajaa.X
set_option linter.unusedVariables false
theorem own : ownKnob Try.prog.godebug = none := by kernel_rfl
theorem laidOut : laidOutB Try.prog = true := by kernel_rfl
set_option maxRecDepth 100000 in
theorem lifted (os : Os) (started : os.Started) (H : Type) (enc : TypeId × Value → H) :
    ReturnsInHanded {} Try.checked os 5 .any (Rows.keyreqKnownSpec.pre6 enc Try.prog Try.f5 Rows.keyreqKnownRow.domain false) (Rows.keyreqKnownSpec.post enc Try.prog Try.f5 false true false false) := by
  refine returnsInHanded_of_change (C := Try.checked) own started (by kernel_rfl) Try.func5
    (ChangeSpec.witness6 (enc := enc) (C := Try.checked) false ⟨#[], #[], []⟩ 8 (by kernel_rfl) (by kernel_rfl) (by kernel_rfl) (by kernel_rfl)) ?_
  intro W base args ds gs before hval0 hW hcnd _
  have hval : ∀ (j : Nat) t v, Try.f5.params[j]? = some t → args[j]? = some v → Value.okWide Try.prog W .any base t v := hval0
  have hW' := hW
  obtain ⟨p, q, hA0, hV, rfl, hfz, hnd⟩ := hW
  have hA : DataW.TrodAll enc Try.prog W 0 (fun _ => true) true Try.f5.params.toList args.toList ds p := hA0
  rw [Try.params5] at hA hval
  obtain ⟨rfl, rfl, rfl⟩ := trodAll_none hA
  obtain ⟨rfl, rfl⟩ := trodVars_none hV
  clear hA0 hval0
  refine ((X.known W  ).run W (Hp.start W)).mono fun e W' ⟨v, he, L', hL, hv⟩ => ?_
  subst he
  subst hv
  have bel := hL.below
  exact ⟨_, rfl, _, _, _, [], _, [], hW', trodAll_mk1 (shut_bool Try.underlying4 _), trodAll_mk0, rfl, bel.frame _, fun h => by cases h⟩
theorem over : Rows.keyreqKnownRow.holds Try.pinned (OpenSpec.ofChange Rows.keyreqKnownSpec) :=
  OpenClaim.holds_of_wide 5 Try.f5 rfl rfl rfl rfl rfl rfl rfl ⟨rfl, rfl, rfl, rfl, rfl⟩ rfl rfl rfl rfl rfl (by kernel_rfl) Try.func5 (by kernel_rfl)
    (of_decide_eq_true (by kernel_rfl)) (by unfold Func.isWrapper; first | (rw [if_pos (by decide +kernel)]; kernel_rfl) | (rw [if_neg (by decide +kernel)]; exact ⟨rfl, rfl⟩))
    (fun os started H enc _ => lifted os started H enc)
theorem proved : Rows.KeyreqKnownSaid := over
#print axioms proved
end Go.Proofs.Ytoolgphkfnkajaa.keyreqKnown
namespace Go.Proofs.Ytoolgphkfnkajaa
/-- The row, under a short name, for the claim. -/
theorem keyreqKnown_holds : Rows.KeyreqKnownSaid := keyreqKnown.proved
end Go.Proofs.Ytoolgphkfnkajaa
