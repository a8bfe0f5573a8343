/-
  RosterPlays: whatever is called, a roster answers what the document says, and has the members that it should; for every input, no condition.
-/
import Derived.Test.YtginfcoaaioaeaaB1
import Derived.Test.YtginfcoaaioaeaaRows
namespace Go.Proofs.Ytginfcoaaioaeaa.X
open Go Go.RowKit
set_option linter.unusedVariables false
theorem plays (W : World) (a0 : Int) (a1 : SlV Act) (a2 a3 : Int) (g0 : InK .i64 a0) (g1 : a1.Good W Act.enc (Act.Good W)) (g2 : InK .i64 a2) (g3 : InK .u32 a3) : XF Try.prog W 4 #[.int .i64 a0, .slice a1.p a1.n a1.c, .int .i64 a2, .int .u32 a3] [] (fun v L' => v = .bool true) :=
  xf_RosterPlays a0 a1.p a1.n a1.c a1.l a2 a3 g1.len g1.rs (Nat.le_trans g1.cap g1.max)
end Go.Proofs.Ytginfcoaaioaeaa.X
namespace Go.Proofs.Ytginfcoaaioaeaa.rosterPlays
open Go.ChangeShapes Go.WideShapes Go.ChangeAt Go.RowKit Go.Proofs.Ytginfcoaaioaeaa.X
set_option linter.unusedVariables false
theorem own : ownKnob Try.prog.godebug = none := by kernel_rfl
theorem laidOut : laidOutB Try.prog = true := by kernel_rfl
set_option maxRecDepth 100000 in
theorem lifted (os : Os) (started : os.Started) (H : Type) (enc : TypeId × Value → H) :
    ReturnsInHanded {} Try.checked os 4 .any (Rows.rosterPlaysSpec.pre6 enc Try.prog Try.f4 Rows.rosterPlaysRow.domain false) (Rows.rosterPlaysSpec.post enc Try.prog Try.f4 false true false false) := by
  refine returnsInHanded_of_change (C := Try.checked) own started (by kernel_rfl) Try.func4
    (ChangeSpec.witness6 (enc := enc) (C := Try.checked) false ⟨#[], #[(.int .i64 0), (.slice none 0 0), (.int .i64 0), (.int .u32 0)], []⟩ 8 (by kernel_rfl) (by kernel_rfl) (by kernel_rfl) (by kernel_rfl)) ?_
  intro W base args ds gs before hval0 hW hcnd _
  have hval : ∀ (j : Nat) t v, Try.f4.params[j]? = some t → args[j]? = some v → Value.okWide Try.prog W .any base t v := hval0
  have hW' := hW
  obtain ⟨p, q, hA0, hV, rfl, hfz, hnd⟩ := hW
  have hA : DataW.TrodAll enc Try.prog W 0 (fun _ => true) true Try.f4.params.toList args.toList ds p := hA0
  rw [Try.params4] at hA hval
  obtain ⟨v0, vs0, d0, ds0, p0, q0, hargs, rfl, rfl, h0, r0⟩ := trodAll_cons hA
  obtain ⟨v1, vs1, d1, ds1, p1, q1, rfl, rfl, rfl, h1, r1⟩ := trodAll_cons r0
  obtain ⟨v2, vs2, d2, ds2, p2, q2, rfl, rfl, rfl, h2, r2⟩ := trodAll_cons r1
  obtain ⟨v3, vs3, d3, ds3, p3, q3, rfl, rfl, rfl, h3, r3⟩ := trodAll_cons r2
  obtain ⟨rfl, rfl, rfl⟩ := trodAll_nil r3
  obtain rfl : args = #[v0, v1, v2, v3] := by cases args; simp_all
  obtain ⟨rfl, rfl⟩ := trodVars_none hV
  have k0 := h0
  have lt0 : ∀ x ∈ p0, x.block < W.heap.size := by obtain ⟨m, hm⟩ := k0; exact DataW.trod_lt m _ _ _ hm
  obtain ⟨y0_0, rfl⟩ := okWide_int Try.underlying3 (hval 0 3 v0 rfl rfl)
  obtain ⟨x0, e0, g0⟩ := top_one op_int h0 rfl
  simp only [List.cons.injEq, Value.int.injEq, and_true, true_and] at e0
  subst e0
  have k1 := h1
  have lt1 : ∀ x ∈ p1, x.block < W.heap.size := by obtain ⟨m, hm⟩ := k1; exact DataW.trod_lt m _ _ _ hm
  obtain ⟨y1_0, y1_1, y1_2, rfl⟩ := okWide_slice Try.underlying22 (hval 1 22 v1 rfl rfl)
  obtain ⟨x1, e1, g1⟩ := top_one (op_slice (T := 22) (e := 33) Act.op Act.len (by decide)) h1 rfl
  obtain ⟨xp1, xn1, xc1, xl1⟩ := x1
  simp only [SlV.enc, List.cons.injEq, Value.slice.injEq, and_true] at e1
  obtain ⟨rfl, rfl, rfl⟩ := e1
  have k2 := h2
  have lt2 : ∀ x ∈ p2, x.block < W.heap.size := by obtain ⟨m, hm⟩ := k2; exact DataW.trod_lt m _ _ _ hm
  obtain ⟨y2_0, rfl⟩ := okWide_int Try.underlying3 (hval 2 3 v2 rfl rfl)
  obtain ⟨x2, e2, g2⟩ := top_one op_int h2 rfl
  simp only [List.cons.injEq, Value.int.injEq, and_true, true_and] at e2
  subst e2
  have k3 := h3
  have lt3 : ∀ x ∈ p3, x.block < W.heap.size := by obtain ⟨m, hm⟩ := k3; exact DataW.trod_lt m _ _ _ hm
  obtain ⟨y3_0, rfl⟩ := okWide_int Try.underlying29 (hval 3 29 v3 rfl rfl)
  obtain ⟨x3, e3, g3⟩ := top_one op_int h3 rfl
  simp only [List.cons.injEq, Value.int.injEq, and_true, true_and] at e3
  subst e3
  clear hA0 hval0
  refine ((X.plays W _ ⟨_, _, _, xl1⟩ _ _ g0 g1 g2 g3).run W (Hp.start W)).mono fun e W' ⟨v, he, L', hL, hv⟩ => ?_
  subst he
  subst hv
  have bel := hL.below
  exact ⟨_, rfl, _, _, _, [], _, [], hW', trodAll_mk1 (shut_bool Try.underlying4 _), (trodAll_cons_mk (Below.trod laidOut (by kernel_rfl) (of_decide_eq_true (by kernel_rfl)) k0 bel lt0) (trodAll_cons_mk (Below.trod laidOut (by kernel_rfl) (of_decide_eq_true (by kernel_rfl)) k1 bel lt1) (trodAll_cons_mk (Below.trod laidOut (by kernel_rfl) (of_decide_eq_true (by kernel_rfl)) k2 bel lt2) (trodAll_cons_mk (Below.trod laidOut (by kernel_rfl) (of_decide_eq_true (by kernel_rfl)) k3 bel lt3) trodAll_mk0)))), rfl, bel.frame _, fun h => by cases h⟩
theorem over : Rows.rosterPlaysRow.holds Try.pinned (OpenSpec.ofChange Rows.rosterPlaysSpec) :=
  OpenClaim.holds_of_wide 4 Try.f4 rfl rfl rfl rfl rfl rfl rfl ⟨rfl, rfl, rfl, rfl, rfl⟩ rfl rfl rfl rfl rfl (by kernel_rfl) Try.func4 (by kernel_rfl)
    (of_decide_eq_true (by kernel_rfl)) (by unfold Func.isWrapper; first | (rw [if_pos (by decide +kernel)]; kernel_rfl) | (rw [if_neg (by decide +kernel)]; exact ⟨rfl, rfl⟩))
    (fun os started H enc _ => lifted os started H enc)
theorem proved : Rows.RosterPlaysSaid := over
#print axioms proved
end Go.Proofs.Ytginfcoaaioaeaa.rosterPlays
namespace Go.Proofs.Ytginfcoaaioaeaa
/-- The row, under a short name, for the claim. -/
theorem rosterPlays_holds : Rows.RosterPlaysSaid := rosterPlays.proved
end Go.Proofs.Ytginfcoaaioaeaa
