/-
  KeyreqOnce: a source is asked at most once in a window, served at the latest when it ends, and hangs on no other source; for every input, no condition.
-/
import Derived.Test.YtoolgphkfnkajaaC4
import Derived.Test.YtoolgphkfnkajaaX7
import Derived.Test.YtoolgphkfnkajaaRows
namespace Go.Proofs.Ytoolgphkfnkajaa.X
open Go Go.RowKit
set_option linter.unusedVariables false
structure Aq where
  f0 : Int
  f1 : Int
  f2 : Int
def Aq.enc (x : Aq) : List Value := [.int .i64 x.f0, .int .u32 x.f1, .int .u16 x.f2]
theorem Aq.len (x : Aq) : x.enc.length = 3 := rfl
def Aq.Good (W : World) (x : Aq) : Prop := (InK .i64) x.f0 ∧ (InK .u32) x.f1 ∧ (InK .u16) x.f2
theorem Aq.op {W : World} : Op' Try.prog W 33 Aq.enc (Aq.Good W) := fun encH fuel cs y h => by
  have hl := op_len (T := 33) (i := 0) h
  obtain ⟨a0, e0, g0⟩ := op_field' (T := 33) (i := 0) op_int h
  obtain ⟨a1, e1, g1⟩ := op_field' (T := 33) (i := 1) op_int h
  obtain ⟨a2, e2, g2⟩ := op_field' (T := 33) (i := 2) op_int h
  refine ⟨⟨a0, a1, a2⟩, ?_, ⟨g0, g1, g2⟩⟩
  obtain ⟨c0, c1, c2, rfl⟩ := list3 hl
  have e0' : [c0] = (fun n : Int => [Value.int .i64 n]) a0 := e0
  have e1' : [c1] = (fun n : Int => [Value.int .u32 n]) a1 := e1
  have e2' : [c2] = (fun n : Int => [Value.int .u16 n]) a2 := e2
  show _ = (fun n : Int => [Value.int .i64 n]) a0 ++ (fun n : Int => [Value.int .u32 n]) a1 ++ (fun n : Int => [Value.int .u16 n]) a2
  rw [← e0', ← e1', ← e2']; rfl
def Aq.to (a : Aq) : Ac := ⟨a.f0, a.f1, a.f2⟩
theorem Aq.flat : ∀ (l : List Aq), (l.map Aq.to).flatMap Ac.enc = l.flatMap Aq.enc
  | [] => rfl
  | a :: r => by
    rw [List.map_cons, List.flatMap_cons, List.flatMap_cons, Aq.flat r]; rfl
theorem once (W : World) (a0 : Int) (a1 : SlV Aq) (g0 : InK .u64 a0) (g1 : a1.Good W Aq.enc (Aq.Good W)) : XF Try.prog W 3 #[.int .u64 a0, .slice a1.p a1.n a1.c] [] (fun v L' => v = .bool true) :=
  once1 a0 g0.1 a1.p a1.n a1.c (a1.l.map Aq.to) (by rw [List.length_map]; exact g1.len) (by rw [Aq.flat]; exact g1.rs) fun y hy => by
    obtain ⟨z, hz, rfl⟩ := List.mem_map.1 hy
    have h := g1.all z hz
    exact ⟨h.2.1, h.2.2⟩
end Go.Proofs.Ytoolgphkfnkajaa.X
namespace Go.Proofs.Ytoolgphkfnkajaa.keyreqOnce
open Go.ChangeShapes Go.WideShapes Go.ChangeAt Go.RowKit Go.Proofs.Ytoolgphkfnkajaa.X
set_option linter.unusedVariables false
theorem own : ownKnob Try.prog.godebug = none := by kernel_rfl
theorem laidOut : laidOutB Try.prog = true := by kernel_rfl
set_option maxRecDepth 100000 in
theorem lifted (os : Os) (started : os.Started) (H : Type) (enc : TypeId × Value → H) :
    ReturnsInHanded {} Try.checked os 3 .any (Rows.keyreqOnceSpec.pre6 enc Try.prog Try.f3 Rows.keyreqOnceRow.domain false) (Rows.keyreqOnceSpec.post enc Try.prog Try.f3 false true false false) := by
  refine returnsInHanded_of_change (C := Try.checked) own started (by kernel_rfl) Try.func3
    (ChangeSpec.witness6 (enc := enc) (C := Try.checked) false ⟨#[], #[(.int .u64 0), (.slice none 0 0)], []⟩ 8 (by kernel_rfl) (by kernel_rfl) (by kernel_rfl) (by kernel_rfl)) ?_
  intro W base args ds gs before hval0 hW hcnd _
  have hval : ∀ (j : Nat) t v, Try.f3.params[j]? = some t → args[j]? = some v → Value.okWide Try.prog W .any base t v := hval0
  have hW' := hW
  obtain ⟨p, q, hA0, hV, rfl, hfz, hnd⟩ := hW
  have hA : DataW.TrodAll enc Try.prog W 0 (fun _ => true) true Try.f3.params.toList args.toList ds p := hA0
  rw [Try.params3] at hA hval
  obtain ⟨v0, vs0, d0, ds0, p0, q0, hargs, rfl, rfl, h0, r0⟩ := trodAll_cons hA
  obtain ⟨v1, vs1, d1, ds1, p1, q1, rfl, rfl, rfl, h1, r1⟩ := trodAll_cons r0
  obtain ⟨rfl, rfl, rfl⟩ := trodAll_nil r1
  obtain rfl : args = #[v0, v1] := by cases args; simp_all
  obtain ⟨rfl, rfl⟩ := trodVars_none hV
  have k0 := h0
  have lt0 : ∀ x ∈ p0, x.block < W.heap.size := by obtain ⟨m, hm⟩ := k0; exact DataW.trod_lt m _ _ _ hm
  obtain ⟨y0_0, rfl⟩ := okWide_int Try.underlying22 (hval 0 22 v0 rfl rfl)
  obtain ⟨x0, e0, g0⟩ := top_one op_int h0 rfl
  simp only [List.cons.injEq, Value.int.injEq, and_true, true_and] at e0
  subst e0
  have k1 := h1
  have lt1 : ∀ x ∈ p1, x.block < W.heap.size := by obtain ⟨m, hm⟩ := k1; exact DataW.trod_lt m _ _ _ hm
  obtain ⟨y1_0, y1_1, y1_2, rfl⟩ := okWide_slice Try.underlying23 (hval 1 23 v1 rfl rfl)
  obtain ⟨x1, e1, g1⟩ := top_one (op_slice (T := 23) (e := 33) Aq.op Aq.len (by decide)) h1 rfl
  obtain ⟨xp1, xn1, xc1, xl1⟩ := x1
  simp only [SlV.enc, List.cons.injEq, Value.slice.injEq, and_true] at e1
  obtain ⟨rfl, rfl, rfl⟩ := e1
  clear hA0 hval0
  refine ((X.once W _ ⟨_, _, _, xl1⟩ g0 g1).run W (Hp.start W)).mono fun e W' ⟨v, he, L', hL, hv⟩ => ?_
  subst he
  subst hv
  have bel := hL.below
  exact ⟨_, rfl, _, _, _, [], _, [], hW', trodAll_mk1 (shut_bool Try.underlying4 _), (trodAll_cons_mk (Below.trod laidOut (by kernel_rfl) (of_decide_eq_true (by kernel_rfl)) k0 bel lt0) (trodAll_cons_mk (Below.trod laidOut (by kernel_rfl) (of_decide_eq_true (by kernel_rfl)) k1 bel lt1) trodAll_mk0)), rfl, bel.frame _, fun h => by cases h⟩
theorem over : Rows.keyreqOnceRow.holds Try.pinned (OpenSpec.ofChange Rows.keyreqOnceSpec) :=
  OpenClaim.holds_of_wide 3 Try.f3 rfl rfl rfl rfl rfl rfl rfl ⟨rfl, rfl, rfl, rfl, rfl⟩ rfl rfl rfl rfl rfl (by kernel_rfl) Try.func3 (by kernel_rfl)
    (of_decide_eq_true (by kernel_rfl)) (by unfold Func.isWrapper; first | (rw [if_pos (by decide +kernel)]; kernel_rfl) | (rw [if_neg (by decide +kernel)]; exact ⟨rfl, rfl⟩))
    (fun os started H enc _ => lifted os started H enc)
theorem proved : Rows.KeyreqOnceSaid := over
#print axioms proved
end Go.Proofs.Ytoolgphkfnkajaa.keyreqOnce
namespace Go.Proofs.Ytoolgphkfnkajaa
/-- The row, under a short name, for the claim. -/
theorem keyreqOnce_holds : Rows.KeyreqOnceSaid := keyreqOnce.proved
end Go.Proofs.Ytoolgphkfnkajaa
