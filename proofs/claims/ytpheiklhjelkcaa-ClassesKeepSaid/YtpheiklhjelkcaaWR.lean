/-
  ClassesKeep: what a queue keeps, whatever is called; for every input, no condition.
-/
import Derived.Test.YtpheiklhjelkcaaW4
import Derived.Test.YtpheiklhjelkcaaW13
import Derived.Test.YtpheiklhjelkcaaRows
namespace Go.Proofs.Ytpheiklhjelkcaa.X
open Go Go.RowKit
set_option linter.unusedVariables false
structure Aq where
  f0 : Int
  f1 : Eq'
def Aq.enc (x : Aq) : List Value := [.int .i64 x.f0] ++ x.f1.enc
theorem Aq.len (x : Aq) : x.enc.length = 18 := rfl
def Aq.Good (W : World) (x : Aq) : Prop := (InK .i64) x.f0 ∧ (Eq'.Good W) x.f1
theorem Aq.op {W : World} : Op' Try.prog W 47 Aq.enc (Aq.Good W) := fun encH fuel cs y h => by
  have hl := op_len (T := 47) (i := 0) h
  obtain ⟨a0, e0, g0⟩ := op_field' (T := 47) (i := 0) op_int h
  obtain ⟨a1, e1, g1⟩ := op_field' (T := 47) (i := 1) Eq'.op h
  refine ⟨⟨a0, a1⟩, ?_, ⟨g0, g1⟩⟩
  obtain ⟨c0, c1, c2, c3, c4, c5, c6, c7, c8, c9, c10, c11, c12, c13, c14, c15, c16, c17, rfl⟩ := list18 hl
  have e0' : [c0] = (fun n : Int => [Value.int .i64 n]) a0 := e0
  have e1' : [c1, c2, c3, c4, c5, c6, c7, c8, c9, c10, c11, c12, c13, c14, c15, c16, c17] = Eq'.enc a1 := e1
  show _ = (fun n : Int => [Value.int .i64 n]) a0 ++ Eq'.enc a1
  rw [← e0', ← e1']; rfl
def Aq.to (a : Aq) : Ac := ⟨a.f0, a.f1.to⟩
theorem Aq.flat {W : World} : ∀ (l : List Aq), (∀ x, x ∈ l → x.Good W) → (l.map Aq.to).flatMap Ac.enc = l.flatMap Aq.enc
  | [], _ => rfl
  | a :: r, h => by
    rw [List.map_cons, List.flatMap_cons, List.flatMap_cons, Aq.flat r (fun x hx => h x (List.mem_cons_of_mem _ hx))]
    have h1 := (h a (List.mem_cons_self ..)).2
    show ([.int .i64 a.f0] ++ a.f1.to.enc) ++ _ = _
    rw [Eq'.enc_to h1]; rfl
theorem Aq.row {W : World} {x : SlV Aq} (h : x.Good W Aq.enc (Aq.Good W)) : AcR W [] x.p (x.l.map Aq.to) := by
  refine ⟨by rw [Aq.flat _ h.all]; exact h.rs, fun y hy => ?_⟩
  obtain ⟨z, hz, rfl⟩ := List.mem_map.1 hy
  exact Eq'.at' (h.all z hz).2
theorem keep (W : World) (a0 : Int) (a1 : Bool) (a2 : SlV Aq) (g0 : InK .i64 a0) (g1 : True) (g2 : a2.Good W Aq.enc (Aq.Good W)) :
    XF Try.prog W 4 #[.int .i64 a0, .bool a1, .slice a2.p a2.n a2.c] [] (fun v L' => v = .bool true) :=
  keep1 a0 a1 a2.p a2.n a2.c (a2.l.map Aq.to) (by rw [List.length_map]; exact g2.len) (Aq.row g2)
end Go.Proofs.Ytpheiklhjelkcaa.X
namespace Go.Proofs.Ytpheiklhjelkcaa.classesKeep
open Go.ChangeShapes Go.WideShapes Go.ChangeAt Go.RowKit Go.Proofs.Ytpheiklhjelkcaa.X
set_option linter.unusedVariables false
theorem own : ownKnob Try.prog.godebug = none := by kernel_rfl
theorem laidOut : laidOutB Try.prog = true := by kernel_rfl
set_option maxRecDepth 100000 in
theorem lifted (os : Os) (started : os.Started) (H : Type) (enc : TypeId × Value → H) :
    ReturnsInHanded {} Try.checked os 4 .any (Rows.classesKeepSpec.pre6 enc Try.prog Try.f4 Rows.classesKeepRow.domain false) (Rows.classesKeepSpec.post enc Try.prog Try.f4 false true false false) := by
  refine returnsInHanded_of_change (C := Try.checked) own started (by kernel_rfl) Try.func4
    (ChangeSpec.witness6 (enc := enc) (C := Try.checked) false ⟨#[], #[(.int .i64 0), (.bool false), (.slice none 0 0)], []⟩ 8 (by kernel_rfl) (by kernel_rfl) (by kernel_rfl) (by kernel_rfl)) ?_
  intro W base args ds gs before hval0 hW hcnd _
  have hval : ∀ (j : Nat) t v, Try.f4.params[j]? = some t → args[j]? = some v → Value.okWide Try.prog W .any base t v := hval0
  have hW' := hW
  obtain ⟨p, q, hA0, hV, rfl, hfz, hnd⟩ := hW
  have hA : DataW.TrodAll enc Try.prog W 0 (fun _ => true) true Try.f4.params.toList args.toList ds p := hA0
  rw [Try.params4] at hA hval
  obtain ⟨v0, vs0, d0, ds0, p0, q0, hargs, rfl, rfl, h0, r0⟩ := trodAll_cons hA
  obtain ⟨v1, vs1, d1, ds1, p1, q1, rfl, rfl, rfl, h1, r1⟩ := trodAll_cons r0
  obtain ⟨v2, vs2, d2, ds2, p2, q2, rfl, rfl, rfl, h2, r2⟩ := trodAll_cons r1
  obtain ⟨rfl, rfl, rfl⟩ := trodAll_nil r2
  obtain rfl : args = #[v0, v1, v2] := by cases args; simp_all
  obtain ⟨rfl, rfl⟩ := trodVars_none hV
  have k0 := h0
  have lt0 : ∀ x ∈ p0, x.block < W.heap.size := by obtain ⟨m, hm⟩ := k0; exact DataW.trod_lt m _ _ _ hm
  obtain ⟨y0_0, rfl⟩ := okWide_int Try.underlying3 (hval 0 3 v0 rfl rfl)
  obtain ⟨x0, e0, g0⟩ := top_one op_int h0 rfl
  simp only [List.cons.injEq, Value.int.injEq, and_true, true_and] at e0
  subst e0
  have k1 := h1
  have lt1 : ∀ x ∈ p1, x.block < W.heap.size := by obtain ⟨m, hm⟩ := k1; exact DataW.trod_lt m _ _ _ hm
  obtain ⟨y1_0, rfl⟩ := okWide_bool Try.underlying4 (hval 1 4 v1 rfl rfl)
  obtain ⟨x1, e1, g1⟩ := top_one op_bool h1 rfl
  simp only [List.cons.injEq, Value.bool.injEq, and_true, true_and] at e1
  subst e1
  have k2 := h2
  have lt2 : ∀ x ∈ p2, x.block < W.heap.size := by obtain ⟨m, hm⟩ := k2; exact DataW.trod_lt m _ _ _ hm
  obtain ⟨y2_0, y2_1, y2_2, rfl⟩ := okWide_slice Try.underlying22 (hval 2 22 v2 rfl rfl)
  obtain ⟨x2, e2, g2⟩ := top_one (op_slice (T := 22) (e := 47) Aq.op Aq.len (by decide)) h2 rfl
  obtain ⟨xp2, xn2, xc2, xl2⟩ := x2
  simp only [SlV.enc, List.cons.injEq, Value.slice.injEq, and_true] at e2
  obtain ⟨rfl, rfl, rfl⟩ := e2
  clear hA0 hval0
  refine ((X.keep W _ _ ⟨_, _, _, xl2⟩ g0 g1 g2).run W (Hp.start W)).mono fun e W' ⟨v, he, L', hL, hv⟩ => ?_
  subst he
  subst hv
  have bel := hL.below
  exact ⟨_, rfl, _, _, _, [], _, [], hW', trodAll_mk1 (shut_bool Try.underlying4 _), (trodAll_cons_mk (Below.trod laidOut (by kernel_rfl) (of_decide_eq_true (by kernel_rfl)) k0 bel lt0) (trodAll_cons_mk (Below.trod laidOut (by kernel_rfl) (of_decide_eq_true (by kernel_rfl)) k1 bel lt1) (trodAll_cons_mk (Below.trod laidOut (by kernel_rfl) (of_decide_eq_true (by kernel_rfl)) k2 bel lt2) trodAll_mk0))), rfl, bel.frame _, fun h => by cases h⟩
theorem over : Rows.classesKeepRow.holds Try.pinned (OpenSpec.ofChange Rows.classesKeepSpec) :=
  OpenClaim.holds_of_wide 4 Try.f4 rfl rfl rfl rfl rfl rfl rfl ⟨rfl, rfl, rfl, rfl, rfl⟩ rfl rfl rfl rfl rfl (by kernel_rfl) Try.func4 (by kernel_rfl)
    (of_decide_eq_true (by kernel_rfl)) (by unfold Func.isWrapper; first | (rw [if_pos (by decide +kernel)]; kernel_rfl) | (rw [if_neg (by decide +kernel)]; exact ⟨rfl, rfl⟩))
    (fun os started H enc _ => lifted os started H enc)
theorem proved : Rows.ClassesKeepSaid := over
#print axioms proved
end Go.Proofs.Ytpheiklhjelkcaa.classesKeep
namespace Go.Proofs.Ytpheiklhjelkcaa
/-- The row, under a short name, for the claim. -/
theorem classesKeep_holds : Rows.ClassesKeepSaid := classesKeep.proved
end Go.Proofs.Ytpheiklhjelkcaa
