/-
  ReportHears: whatever reports come (at most 20, each with its tick), a block tells of the last one what the document says; for every input, no condition.
-/
import Derived.Test.YtogilblilljpmaaH5
import Derived.Test.YtogilblilljpmaaX7
import Derived.Test.YtogilblilljpmaaRows
namespace Go.Proofs.Ytogilblilljpmaa.X
open Go Go.RowKit
set_option linter.unusedVariables false
structure Bk where
  f0 : Int
  f1 : Int
  f2 : Int
  f3 : Int
  f4 : Int
  f5 : Int
  f6 : Int
def Bk.enc (x : Bk) : List Value := [.int .u32 x.f0, .int .u8 x.f1, .int .i32 x.f2, .int .u32 x.f3, .int .u32 x.f4, .int .u32 x.f5, .int .u32 x.f6]
theorem Bk.len (x : Bk) : x.enc.length = 7 := rfl
def Bk.Good (W : World) (x : Bk) : Prop := (InK .u32) x.f0 ∧ (InK .u8) x.f1 ∧ (InK .i32) x.f2 ∧ (InK .u32) x.f3 ∧ (InK .u32) x.f4 ∧ (InK .u32) x.f5 ∧ (InK .u32) x.f6
theorem Bk.op {W : World} : Op' Try.prog W 30 Bk.enc (Bk.Good W) := fun encH fuel cs y h => by
  have hl := op_len (T := 30) (i := 0) h
  obtain ⟨a0, e0, g0⟩ := op_field' (T := 30) (i := 0) op_int h
  obtain ⟨a1, e1, g1⟩ := op_field' (T := 30) (i := 1) op_int h
  obtain ⟨a2, e2, g2⟩ := op_field' (T := 30) (i := 2) op_int h
  obtain ⟨a3, e3, g3⟩ := op_field' (T := 30) (i := 3) op_int h
  obtain ⟨a4, e4, g4⟩ := op_field' (T := 30) (i := 4) op_int h
  obtain ⟨a5, e5, g5⟩ := op_field' (T := 30) (i := 5) op_int h
  obtain ⟨a6, e6, g6⟩ := op_field' (T := 30) (i := 6) op_int h
  refine ⟨⟨a0, a1, a2, a3, a4, a5, a6⟩, ?_, ⟨g0, g1, g2, g3, g4, g5, g6⟩⟩
  obtain ⟨c0, c1, c2, c3, c4, c5, c6, rfl⟩ := list7 hl
  have e0' : [c0] = (fun n : Int => [Value.int .u32 n]) a0 := e0
  have e1' : [c1] = (fun n : Int => [Value.int .u8 n]) a1 := e1
  have e2' : [c2] = (fun n : Int => [Value.int .i32 n]) a2 := e2
  have e3' : [c3] = (fun n : Int => [Value.int .u32 n]) a3 := e3
  have e4' : [c4] = (fun n : Int => [Value.int .u32 n]) a4 := e4
  have e5' : [c5] = (fun n : Int => [Value.int .u32 n]) a5 := e5
  have e6' : [c6] = (fun n : Int => [Value.int .u32 n]) a6 := e6
  show _ = (fun n : Int => [Value.int .u32 n]) a0 ++ (fun n : Int => [Value.int .u8 n]) a1 ++ (fun n : Int => [Value.int .i32 n]) a2 ++ (fun n : Int => [Value.int .u32 n]) a3 ++ (fun n : Int => [Value.int .u32 n]) a4 ++ (fun n : Int => [Value.int .u32 n]) a5 ++ (fun n : Int => [Value.int .u32 n]) a6
  rw [← e0', ← e1', ← e2', ← e3', ← e4', ← e5', ← e6']; rfl
theorem flat_ints (k : IntKind) (l : List Int) : l.flatMap (fun n : Int => [Value.int k n]) = l.map (Value.int k) := by
  induction l with
  | nil => rfl
  | cons a r ih => simp [ih]
theorem hears (W : World) (a0 : SlV Int) (a1 : SlV Int) (a2 : Bk) (a3 : Int) (g0 : a0.Good W (fun n : Int => [.int .u64 n]) (InK .u64)) (g1 : a1.Good W (fun n : Int => [.int .u64 n]) (InK .u64)) (g2 : a2.Good W) (g3 : InK .u64 a3) :
    XF Try.prog W 4 #[.slice a0.p a0.n a0.c, .slice a1.p a1.n a1.c, .agg a2.enc.toArray, .int .u64 a3] [] (fun v L' => v = .bool true) := by
  have r0 := g0.rs
  have r1 := g1.rs
  rw [flat_ints] at r0 r1
  exact xf_law a0.p a1.p a0.n a1.n a0.c a1.c a0.l a1.l g0.len g1.len g0.all g1.all ⟨a2.f0, a2.f1, a2.f2, a2.f3, a2.f4, a2.f5, a2.f6⟩ a3 g3 r0 r1 (Nat.le_trans g0.cap g0.max) (Nat.le_trans g1.cap g1.max)
end Go.Proofs.Ytogilblilljpmaa.X
namespace Go.Proofs.Ytogilblilljpmaa.reportHears
open Go.ChangeShapes Go.WideShapes Go.ChangeAt Go.RowKit Go.Proofs.Ytogilblilljpmaa.X
set_option linter.unusedVariables false
theorem own : ownKnob Try.prog.godebug = none := by kernel_rfl
theorem laidOut : laidOutB Try.prog = true := by kernel_rfl
set_option maxRecDepth 100000 in
theorem lifted (os : Os) (started : os.Started) (H : Type) (enc : TypeId × Value → H) :
    ReturnsInHanded {} Try.checked os 4 .any (Rows.reportHearsSpec.pre6 enc Try.prog Try.f4 Rows.reportHearsRow.domain false) (Rows.reportHearsSpec.post enc Try.prog Try.f4 false true false false) := by
  refine returnsInHanded_of_change (C := Try.checked) own started (by kernel_rfl) Try.func4
    (ChangeSpec.witness6 (enc := enc) (C := Try.checked) false ⟨#[], #[(.slice none 0 0), (.slice none 0 0), (.agg #[(.int .u32 0), (.int .u8 0), (.int .i32 0), (.int .u32 0), (.int .u32 0), (.int .u32 0), (.int .u32 0)]), (.int .u64 0)], []⟩ 8 (by kernel_rfl) (by kernel_rfl) (by kernel_rfl) (by kernel_rfl)) ?_
  intro W base args ds gs before hval0 hW hcnd _
  have hval : ∀ (j : Nat) t v, Try.f4.params[j]? = some t → args[j]? = some v → Value.okWide Try.prog W .any base t v := hval0
  have hW' := hW
  obtain ⟨p, q, hA0, hV, rfl, hfz, hnd⟩ := hW
  have hA : DataW.TrodAll enc Try.prog W 0 (fun _ => true) true Try.f4.params.toList args.toList ds p := hA0
  rw [Try.params4] at hA hval
  obtain ⟨v0, vs0, d0, ds0, p0, q0, hargs, rfl, rfl, h0, r0⟩ := trodAll_cons hA
  obtain ⟨v1, vs1, d1, ds1, p1, q1, rfl, rfl, rfl, h1, r1⟩ := trodAll_cons r0
  obtain ⟨v2, vs2, d2, ds2, p2, q2, rfl, rfl, rfl, h2, r2⟩ := trodAll_cons r1
  obtain ⟨v3, vs3, d3, ds3, p3, q3, rfl, rfl, rfl, h3, r3⟩ := trodAll_cons r2
  obtain ⟨rfl, rfl, rfl⟩ := trodAll_nil r3
  obtain rfl : args = #[v0, v1, v2, v3] := by cases args; simp_all
  obtain ⟨rfl, rfl⟩ := trodVars_none hV
  have k0 := h0
  have lt0 : ∀ x ∈ p0, x.block < W.heap.size := by obtain ⟨m, hm⟩ := k0; exact DataW.trod_lt m _ _ _ hm
  obtain ⟨y0_0, y0_1, y0_2, rfl⟩ := okWide_slice Try.underlying28 (hval 0 28 v0 rfl rfl)
  obtain ⟨x0, e0, g0⟩ := top_one (op_slice (T := 28) (e := 22) op_int (fun _ => rfl) (by decide)) h0 rfl
  obtain ⟨xp0, xn0, xc0, xl0⟩ := x0
  simp only [SlV.enc, List.cons.injEq, Value.slice.injEq, and_true] at e0
  obtain ⟨rfl, rfl, rfl⟩ := e0
  have k1 := h1
  have lt1 : ∀ x ∈ p1, x.block < W.heap.size := by obtain ⟨m, hm⟩ := k1; exact DataW.trod_lt m _ _ _ hm
  obtain ⟨y1_0, y1_1, y1_2, rfl⟩ := okWide_slice Try.underlying28 (hval 1 28 v1 rfl rfl)
  obtain ⟨x1, e1, g1⟩ := top_one (op_slice (T := 28) (e := 22) op_int (fun _ => rfl) (by decide)) h1 rfl
  obtain ⟨xp1, xn1, xc1, xl1⟩ := x1
  simp only [SlV.enc, List.cons.injEq, Value.slice.injEq, and_true] at e1
  obtain ⟨rfl, rfl, rfl⟩ := e1
  have k2 := h2
  have lt2 : ∀ x ∈ p2, x.block < W.heap.size := by obtain ⟨m, hm⟩ := k2; exact DataW.trod_lt m _ _ _ hm
  obtain ⟨cs2, rfl, _⟩ := okWide_struct Try.underlying30 (hval 2 30 v2 rfl rfl)
  obtain ⟨x2, rfl, g2⟩ := top_agg Bk.op h2
  have k3 := h3
  have lt3 : ∀ x ∈ p3, x.block < W.heap.size := by obtain ⟨m, hm⟩ := k3; exact DataW.trod_lt m _ _ _ hm
  obtain ⟨y3_0, rfl⟩ := okWide_int Try.underlying22 (hval 3 22 v3 rfl rfl)
  obtain ⟨x3, e3, g3⟩ := top_one op_int h3 rfl
  simp only [List.cons.injEq, Value.int.injEq, and_true, true_and] at e3
  subst e3
  clear hA0 hval0
  refine ((X.hears W ⟨_, _, _, xl0⟩ ⟨_, _, _, xl1⟩ x2 _ g0 g1 g2 g3).run W (Hp.start W)).mono fun e W' ⟨v, he, L', hL, hv⟩ => ?_
  subst he
  subst hv
  have bel := hL.below
  exact ⟨_, rfl, _, _, _, [], _, [], hW', trodAll_mk1 (shut_bool Try.underlying4 _), (trodAll_cons_mk (Below.trod laidOut (by kernel_rfl) (of_decide_eq_true (by kernel_rfl)) k0 bel lt0) (trodAll_cons_mk (Below.trod laidOut (by kernel_rfl) (of_decide_eq_true (by kernel_rfl)) k1 bel lt1) (trodAll_cons_mk (Below.trod laidOut (by kernel_rfl) (of_decide_eq_true (by kernel_rfl)) k2 bel lt2) (trodAll_cons_mk (Below.trod laidOut (by kernel_rfl) (of_decide_eq_true (by kernel_rfl)) k3 bel lt3) trodAll_mk0)))), rfl, bel.frame _, fun h => by cases h⟩
theorem over : Rows.reportHearsRow.holds Try.pinned (OpenSpec.ofChange Rows.reportHearsSpec) :=
  OpenClaim.holds_of_wide 4 Try.f4 rfl rfl rfl rfl rfl rfl rfl ⟨rfl, rfl, rfl, rfl, rfl⟩ rfl rfl rfl rfl rfl (by kernel_rfl) Try.func4 (by kernel_rfl)
    (of_decide_eq_true (by kernel_rfl)) (by unfold Func.isWrapper; first | (rw [if_pos (by decide +kernel)]; kernel_rfl) | (rw [if_neg (by decide +kernel)]; exact ⟨rfl, rfl⟩))
    (fun os started H enc _ => lifted os started H enc)
theorem proved : Rows.ReportHearsSaid := over
#print axioms proved
end Go.Proofs.Ytogilblilljpmaa.reportHears
namespace Go.Proofs.Ytogilblilljpmaa
/-- The row, under a short name, for the claim. -/
theorem reportHears_holds : Rows.ReportHearsSaid := reportHears.proved
end Go.Proofs.Ytogilblilljpmaa
