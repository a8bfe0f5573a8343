/-
  RoomKnown: the examples of the chapter, calls by numbers, ids about the bounds; a closed statement, no condition.
-/
import Derived.Test.YtmdeajdaeihniaaGreatN14
import Derived.Test.YtmdeajdaeihniaaGreatN7
import Derived.Test.YtmdeajdaeihniaaGreatRows
namespace Go.Proofs.YtmdeajdaeihniaaGreat.X
open Go Go.RowKit
theorem known (W : World) : XF Tryz.prog W 4 #[] [] (fun v L' => v = .bool true) := xf_RoomKnown
end Go.Proofs.YtmdeajdaeihniaaGreat.X
namespace Go.Proofs.YtmdeajdaeihniaaGreat.roomKnown
open Go.ChangeShapes Go.WideShapes Go.ChangeAt Go.RowKit Go.Proofs.YtmdeajdaeihniaaGreat.X
set_option linter.unusedVariables false
theorem own : ownKnob Tryz.prog.godebug = none := by kernel_rfl
theorem laidOut : laidOutB Tryz.prog = true := by kernel_rfl
set_option maxRecDepth 100000 in
theorem lifted (os : Os) (started : os.Started) (H : Type) (enc : TypeId × Value → H) :
    ReturnsInHanded {} Tryz.checked os 4 .any (Rows.roomKnownSpec.pre6 enc Tryz.prog Tryz.f4 Rows.roomKnownRow.domain false) (Rows.roomKnownSpec.post enc Tryz.prog Tryz.f4 false true false false) := by
  refine returnsInHanded_of_change (C := Tryz.checked) own started (by kernel_rfl) Tryz.func4
    (ChangeSpec.witness6 (enc := enc) (C := Tryz.checked) false ⟨#[], #[], []⟩ 8 (by kernel_rfl) (by kernel_rfl) (by kernel_rfl) (by kernel_rfl)) ?_
  intro W base args ds gs before hval0 hW hcnd _
  have hval : ∀ (j : Nat) t v, Tryz.f4.params[j]? = some t → args[j]? = some v → Value.okWide Tryz.prog W .any base t v := hval0
  have hW' := hW
  obtain ⟨p, q, hA0, hV, rfl, hfz, hnd⟩ := hW
  have hA : DataW.TrodAll enc Tryz.prog W 0 (fun _ => true) true Tryz.f4.params.toList args.toList ds p := hA0
  rw [Tryz.params4] at hA hval
  obtain ⟨rfl, rfl, rfl⟩ := trodAll_none hA
  obtain ⟨rfl, rfl⟩ := trodVars_none hV
  clear hA0 hval0
  refine ((X.known W  ).run W (Hp.start W)).mono fun e W' ⟨v, he, L', hL, hv⟩ => ?_
  subst he
  subst hv
  have bel := hL.below
  exact ⟨_, rfl, _, _, _, [], _, [], hW', trodAll_mk1 (shut_bool Tryz.underlying4 _), trodAll_mk0, rfl, bel.frame _, fun h => by cases h⟩
theorem over : Rows.roomKnownRow.holds Tryz.pinned (OpenSpec.ofChange Rows.roomKnownSpec) :=
  OpenClaim.holds_of_wide 4 Tryz.f4 rfl rfl rfl rfl rfl rfl rfl ⟨rfl, rfl, rfl, rfl, rfl⟩ rfl rfl rfl rfl rfl (by kernel_rfl) Tryz.func4 (by kernel_rfl)
    (of_decide_eq_true (by kernel_rfl)) (by unfold Func.isWrapper; first | (rw [if_pos (by decide +kernel)]; kernel_rfl) | (rw [if_neg (by decide +kernel)]; exact ⟨rfl, rfl⟩))
    (fun os started H enc _ => lifted os started H enc)
theorem proved : Rows.RoomKnownSaid := over
#print axioms proved
end Go.Proofs.YtmdeajdaeihniaaGreat.roomKnown
namespace Go.Proofs.YtmdeajdaeihniaaGreat
/-- The row, under a short name, for the claim. -/
theorem roomKnown_holds : Rows.RoomKnownSaid := roomKnown.proved
end Go.Proofs.YtmdeajdaeihniaaGreat
