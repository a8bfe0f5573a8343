/-
  ReportNone: an outlet, and a remote, that are not there answer so; for every input, no condition.
-/
import Derived.Test.YtogilblilljpmaaP9
import Derived.Test.YtogilblilljpmaaRows
namespace Go.Proofs.Ytogilblilljpmaa.X
open Go Go.RowKit
set_option linter.unusedVariables false
structure Bq where
  f0 : Int
  f1 : Int
  f2 : Int
  f3 : Int
  f4 : Int
  f5 : Int
  f6 : Int
def Bq.enc (x : Bq) : List Value := [.int .u32 x.f0, .int .u8 x.f1, .int .i32 x.f2, .int .u32 x.f3, .int .u32 x.f4, .int .u32 x.f5, .int .u32 x.f6]
theorem Bq.len (x : Bq) : x.enc.length = 7 := rfl
def Bq.Good (W : World) (x : Bq) : Prop := (InK .u32) x.f0 ∧ (InK .u8) x.f1 ∧ (InK .i32) x.f2 ∧ (InK .u32) x.f3 ∧ (InK .u32) x.f4 ∧ (InK .u32) x.f5 ∧ (InK .u32) x.f6
theorem Bq.op {W : World} : Op' Try.prog W 30 Bq.enc (Bq.Good W) := fun encH fuel cs y h => by
  have hl := op_len (T := 30) (i := 0) h
  obtain ⟨a0, e0, g0⟩ := op_field' (T := 30) (i := 0) op_int h
  obtain ⟨a1, e1, g1⟩ := op_field' (T := 30) (i := 1) op_int h
  obtain ⟨a2, e2, g2⟩ := op_field' (T := 30) (i := 2) op_int h
  obtain ⟨a3, e3, g3⟩ := op_field' (T := 30) (i := 3) op_int h
  obtain ⟨a4, e4, g4⟩ := op_field' (T := 30) (i := 4) op_int h
  obtain ⟨a5, e5, g5⟩ := op_field' (T := 30) (i := 5) op_int h
  obtain ⟨a6, e6, g6⟩ := op_field' (T := 30) (i := 6) op_int h
  refine ⟨⟨a0, a1, a2, a3, a4, a5, a6⟩, ?_, ⟨g0, g1, g2, g3, g4, g5, g6⟩⟩
  obtain ⟨c0, c1, c2, c3, c4, c5, c6, rfl⟩ := list7 hl
  have e0' : [c0] = (fun n : Int => [Value.int .u32 n]) a0 := e0
  have e1' : [c1] = (fun n : Int => [Value.int .u8 n]) a1 := e1
  have e2' : [c2] = (fun n : Int => [Value.int .i32 n]) a2 := e2
  have e3' : [c3] = (fun n : Int => [Value.int .u32 n]) a3 := e3
  have e4' : [c4] = (fun n : Int => [Value.int .u32 n]) a4 := e4
  have e5' : [c5] = (fun n : Int => [Value.int .u32 n]) a5 := e5
  have e6' : [c6] = (fun n : Int => [Value.int .u32 n]) a6 := e6
  show _ = (fun n : Int => [Value.int .u32 n]) a0 ++ (fun n : Int => [Value.int .u8 n]) a1 ++ (fun n : Int => [Value.int .i32 n]) a2 ++ (fun n : Int => [Value.int .u32 n]) a3 ++ (fun n : Int => [Value.int .u32 n]) a4 ++ (fun n : Int => [Value.int .u32 n]) a5 ++ (fun n : Int => [Value.int .u32 n]) a6
  rw [← e0', ← e1', ← e2', ← e3', ← e4', ← e5', ← e6']; rfl
theorem Bq.rg {W : World} {a : Bq} (h : a.Good W) : Bk.Rg ⟨a.f0, a.f1, a.f2, a.f3, a.f4, a.f5, a.f6⟩ := by
  obtain ⟨h0, h1, h2, h3, h4, h5, h6⟩ := h
  exact ⟨h0, h1, h2, h3, h4, h5, h6⟩
theorem none' (W : World) (a0 : Bq) (a1 : Int) (g0 : a0.Good W) (g1 : InK .u64 a1) : XF Try.prog W 5 #[.agg a0.enc.toArray, .int .u64 a1] [] (fun v L' => v = .bool true) :=
  (xf_ReportNone ⟨a0.f0, a0.f1, a0.f2, a0.f3, a0.f4, a0.f5, a0.f6⟩ (Bq.rg g0) a1 g1).mono fun v L' h => h.1
end Go.Proofs.Ytogilblilljpmaa.X
namespace Go.Proofs.Ytogilblilljpmaa.reportNone
open Go.ChangeShapes Go.WideShapes Go.ChangeAt Go.RowKit Go.Proofs.Ytogilblilljpmaa.X
set_option linter.unusedVariables false
theorem own : ownKnob Try.prog.godebug = none := by kernel_rfl
theorem laidOut : laidOutB Try.prog = true := by kernel_rfl
set_option maxRecDepth 100000 in
theorem lifted (os : Os) (started : os.Started) (H : Type) (enc : TypeId × Value → H) :
    ReturnsInHanded {} Try.checked os 5 .any (Rows.reportNoneSpec.pre6 enc Try.prog Try.f5 Rows.reportNoneRow.domain false) (Rows.reportNoneSpec.post enc Try.prog Try.f5 false true false false) := by
  refine returnsInHanded_of_change (C := Try.checked) own started (by kernel_rfl) Try.func5
    (ChangeSpec.witness6 (enc := enc) (C := Try.checked) false ⟨#[], #[(.agg #[(.int .u32 0), (.int .u8 0), (.int .i32 0), (.int .u32 0), (.int .u32 0), (.int .u32 0), (.int .u32 0)]), (.int .u64 0)], []⟩ 8 (by kernel_rfl) (by kernel_rfl) (by kernel_rfl) (by kernel_rfl)) ?_
  intro W base args ds gs before hval0 hW hcnd _
  have hval : ∀ (j : Nat) t v, Try.f5.params[j]? = some t → args[j]? = some v → Value.okWide Try.prog W .any base t v := hval0
  have hW' := hW
  obtain ⟨p, q, hA0, hV, rfl, hfz, hnd⟩ := hW
  have hA : DataW.TrodAll enc Try.prog W 0 (fun _ => true) true Try.f5.params.toList args.toList ds p := hA0
  rw [Try.params5] at hA hval
  obtain ⟨v0, vs0, d0, ds0, p0, q0, hargs, rfl, rfl, h0, r0⟩ := trodAll_cons hA
  obtain ⟨v1, vs1, d1, ds1, p1, q1, rfl, rfl, rfl, h1, r1⟩ := trodAll_cons r0
  obtain ⟨rfl, rfl, rfl⟩ := trodAll_nil r1
  obtain rfl : args = #[v0, v1] := by cases args; simp_all
  obtain ⟨rfl, rfl⟩ := trodVars_none hV
  have k0 := h0
  have lt0 : ∀ x ∈ p0, x.block < W.heap.size := by obtain ⟨m, hm⟩ := k0; exact DataW.trod_lt m _ _ _ hm
  obtain ⟨cs0, rfl, _⟩ := okWide_struct Try.underlying30 (hval 0 30 v0 rfl rfl)
  obtain ⟨x0, rfl, g0⟩ := top_agg Bq.op h0
  have k1 := h1
  have lt1 : ∀ x ∈ p1, x.block < W.heap.size := by obtain ⟨m, hm⟩ := k1; exact DataW.trod_lt m _ _ _ hm
  obtain ⟨y1_0, rfl⟩ := okWide_int Try.underlying22 (hval 1 22 v1 rfl rfl)
  obtain ⟨x1, e1, g1⟩ := top_one op_int h1 rfl
  simp only [List.cons.injEq, Value.int.injEq, and_true, true_and] at e1
  subst e1
  clear hA0 hval0
  refine ((X.none' W x0 _ g0 g1).run W (Hp.start W)).mono fun e W' ⟨v, he, L', hL, hv⟩ => ?_
  subst he
  subst hv
  have bel := hL.below
  exact ⟨_, rfl, _, _, _, [], _, [], hW', trodAll_mk1 (shut_bool Try.underlying4 _), (trodAll_cons_mk (Below.trod laidOut (by kernel_rfl) (of_decide_eq_true (by kernel_rfl)) k0 bel lt0) (trodAll_cons_mk (Below.trod laidOut (by kernel_rfl) (of_decide_eq_true (by kernel_rfl)) k1 bel lt1) trodAll_mk0)), rfl, bel.frame _, fun h => by cases h⟩
theorem over : Rows.reportNoneRow.holds Try.pinned (OpenSpec.ofChange Rows.reportNoneSpec) :=
  OpenClaim.holds_of_wide 5 Try.f5 rfl rfl rfl rfl rfl rfl rfl ⟨rfl, rfl, rfl, rfl, rfl⟩ rfl rfl rfl rfl rfl (by kernel_rfl) Try.func5 (by kernel_rfl)
    (of_decide_eq_true (by kernel_rfl)) (by unfold Func.isWrapper; first | (rw [if_pos (by decide +kernel)]; kernel_rfl) | (rw [if_neg (by decide +kernel)]; exact ⟨rfl, rfl⟩))
    (fun os started H enc _ => lifted os started H enc)
theorem proved : Rows.ReportNoneSaid := over
#print axioms proved
end Go.Proofs.Ytogilblilljpmaa.reportNone
namespace Go.Proofs.Ytogilblilljpmaa
/-- The row, under a short name, for the claim. -/
theorem reportNone_holds : Rows.ReportNoneSaid := reportNone.proved
end Go.Proofs.Ytogilblilljpmaa
