/-
  FloorNone: a floor that is not there answers so; for every input, no condition.
-/
import Derived.Test.YtoioekcghihbfaaM5
import Derived.Test.YtoioekcghihbfaaRows
namespace Go.Proofs.Ytoioekcghihbfaa.X
open Go Go.RowKit
set_option linter.unusedVariables false
structure Aq where
  f0 : Int
  f1 : Int
  f2 : Int
  f3 : Bool
  f4 : Int
def Aq.enc (x : Aq) : List Value := [.int .i64 x.f0, .int .u32 x.f1, .int .u32 x.f2, .bool x.f3, .int .u8 x.f4]
theorem Aq.len (x : Aq) : x.enc.length = 5 := rfl
def Aq.Good (W : World) (x : Aq) : Prop := (InK .i64) x.f0 ∧ (InK .u32) x.f1 ∧ (InK .u32) x.f2 ∧ (fun _ => True) x.f3 ∧ (InK .u8) x.f4
theorem Aq.op {W : World} : Op' Try.prog W 33 Aq.enc (Aq.Good W) := fun encH fuel cs y h => by
  have hl := op_len (T := 33) (i := 0) h
  obtain ⟨a0, e0, g0⟩ := op_field' (T := 33) (i := 0) op_int h
  obtain ⟨a1, e1, g1⟩ := op_field' (T := 33) (i := 1) op_int h
  obtain ⟨a2, e2, g2⟩ := op_field' (T := 33) (i := 2) op_int h
  obtain ⟨a3, e3, g3⟩ := op_field' (T := 33) (i := 3) op_bool h
  obtain ⟨a4, e4, g4⟩ := op_field' (T := 33) (i := 4) op_int h
  refine ⟨⟨a0, a1, a2, a3, a4⟩, ?_, ⟨g0, g1, g2, g3, g4⟩⟩
  obtain ⟨c0, c1, c2, c3, c4, rfl⟩ := list5 hl
  have e0' : [c0] = (fun n : Int => [Value.int .i64 n]) a0 := e0
  have e1' : [c1] = (fun n : Int => [Value.int .u32 n]) a1 := e1
  have e2' : [c2] = (fun n : Int => [Value.int .u32 n]) a2 := e2
  have e3' : [c3] = (fun b : Bool => [Value.bool b]) a3 := e3
  have e4' : [c4] = (fun n : Int => [Value.int .u8 n]) a4 := e4
  show _ = (fun n : Int => [Value.int .i64 n]) a0 ++ (fun n : Int => [Value.int .u32 n]) a1 ++ (fun n : Int => [Value.int .u32 n]) a2 ++ (fun b : Bool => [Value.bool b]) a3 ++ (fun n : Int => [Value.int .u8 n]) a4
  rw [← e0', ← e1', ← e2', ← e3', ← e4']; rfl
theorem none' (W : World) (a0 : Aq) (g0 : a0.Good W) : XF Try.prog W 5 #[.agg a0.enc.toArray] [] (fun v L' => v = .bool true) := xf_FloorNone a0.f0 a0.f1 a0.f2 a0.f3 a0.f4
end Go.Proofs.Ytoioekcghihbfaa.X
namespace Go.Proofs.Ytoioekcghihbfaa.floorNone
open Go.ChangeShapes Go.WideShapes Go.ChangeAt Go.RowKit Go.Proofs.Ytoioekcghihbfaa.X
set_option linter.unusedVariables false
theorem own : ownKnob Try.prog.godebug = none := by kernel_rfl
theorem laidOut : laidOutB Try.prog = true := by kernel_rfl
set_option maxRecDepth 100000 in
theorem lifted (os : Os) (started : os.Started) (H : Type) (enc : TypeId × Value → H) :
    ReturnsInHanded {} Try.checked os 5 .any (Rows.floorNoneSpec.pre6 enc Try.prog Try.f5 Rows.floorNoneRow.domain false) (Rows.floorNoneSpec.post enc Try.prog Try.f5 false true false false) := by
  refine returnsInHanded_of_change (C := Try.checked) own started (by kernel_rfl) Try.func5
    (ChangeSpec.witness6 (enc := enc) (C := Try.checked) false ⟨#[], #[(.agg #[(.int .i64 0), (.int .u32 0), (.int .u32 0), (.bool false), (.int .u8 0)])], []⟩ 8 (by kernel_rfl) (by kernel_rfl) (by kernel_rfl) (by kernel_rfl)) ?_
  intro W base args ds gs before hval0 hW hcnd _
  have hval : ∀ (j : Nat) t v, Try.f5.params[j]? = some t → args[j]? = some v → Value.okWide Try.prog W .any base t v := hval0
  have hW' := hW
  obtain ⟨p, q, hA0, hV, rfl, hfz, hnd⟩ := hW
  have hA : DataW.TrodAll enc Try.prog W 0 (fun _ => true) true Try.f5.params.toList args.toList ds p := hA0
  rw [Try.params5] at hA hval
  obtain ⟨v0, vs0, d0, ds0, p0, q0, hargs, rfl, rfl, h0, r0⟩ := trodAll_cons hA
  obtain ⟨rfl, rfl, rfl⟩ := trodAll_nil r0
  obtain rfl : args = #[v0] := by cases args; simp_all
  obtain ⟨rfl, rfl⟩ := trodVars_none hV
  have k0 := h0
  have lt0 : ∀ x ∈ p0, x.block < W.heap.size := by obtain ⟨m, hm⟩ := k0; exact DataW.trod_lt m _ _ _ hm
  obtain ⟨cs0, rfl, _⟩ := okWide_struct Try.underlying33 (hval 0 33 v0 rfl rfl)
  obtain ⟨x0, rfl, g0⟩ := top_agg Aq.op h0
  clear hA0 hval0
  refine ((X.none' W x0 g0).run W (Hp.start W)).mono fun e W' ⟨v, he, L', hL, hv⟩ => ?_
  subst he
  subst hv
  have bel := hL.below
  exact ⟨_, rfl, _, _, _, [], _, [], hW', trodAll_mk1 (shut_bool Try.underlying4 _), (trodAll_cons_mk (Below.trod laidOut (by kernel_rfl) (of_decide_eq_true (by kernel_rfl)) k0 bel lt0) trodAll_mk0), rfl, bel.frame _, fun h => by cases h⟩
theorem over : Rows.floorNoneRow.holds Try.pinned (OpenSpec.ofChange Rows.floorNoneSpec) :=
  OpenClaim.holds_of_wide 5 Try.f5 rfl rfl rfl rfl rfl rfl rfl ⟨rfl, rfl, rfl, rfl, rfl⟩ rfl rfl rfl rfl rfl (by kernel_rfl) Try.func5 (by kernel_rfl)
    (of_decide_eq_true (by kernel_rfl)) (by unfold Func.isWrapper; first | (rw [if_pos (by decide +kernel)]; kernel_rfl) | (rw [if_neg (by decide +kernel)]; exact ⟨rfl, rfl⟩))
    (fun os started H enc _ => lifted os started H enc)
theorem proved : Rows.FloorNoneSaid := over
#print axioms proved
end Go.Proofs.Ytoioekcghihbfaa.floorNone
namespace Go.Proofs.Ytoioekcghihbfaa
/-- The row, under a short name, for the claim. -/
theorem floorNone_holds : Rows.FloorNoneSaid := floorNone.proved
end Go.Proofs.Ytoioekcghihbfaa
