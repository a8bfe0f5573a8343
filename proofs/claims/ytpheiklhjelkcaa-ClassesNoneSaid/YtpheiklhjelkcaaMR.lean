/-
  ClassesNone: rows that are not there answer so; for every input, no condition.
-/
import Derived.Test.YtpheiklhjelkcaaM4
import Derived.Test.YtpheiklhjelkcaaM8
import Derived.Test.YtpheiklhjelkcaaRows
namespace Go.Proofs.Ytpheiklhjelkcaa.X
open Go Go.RowKit
set_option linter.unusedVariables false
theorem none' (W : World) (a0 : Eq') (a1 : Int) (g0 : a0.Good W) (g1 : InK .u16 a1) : XF Try.prog W 6 #[.agg a0.enc.toArray, .int .u16 a1] [] (fun v L' => v = .bool true) := by
  rw [← Eq'.enc_to g0]
  exact (xf_ClassesNone a0.to (Eq'.at' g0) a1).mono fun v L' h => h.1
end Go.Proofs.Ytpheiklhjelkcaa.X
namespace Go.Proofs.Ytpheiklhjelkcaa.classesNone
open Go.ChangeShapes Go.WideShapes Go.ChangeAt Go.RowKit Go.Proofs.Ytpheiklhjelkcaa.X
set_option linter.unusedVariables false
theorem own : ownKnob Try.prog.godebug = none := by kernel_rfl
theorem laidOut : laidOutB Try.prog = true := by kernel_rfl
set_option maxRecDepth 100000 in
theorem lifted (os : Os) (started : os.Started) (H : Type) (enc : TypeId × Value → H) :
    ReturnsInHanded {} Try.checked os 6 .any (Rows.classesNoneSpec.pre6 enc Try.prog Try.f6 Rows.classesNoneRow.domain false) (Rows.classesNoneSpec.post enc Try.prog Try.f6 false true false false) := by
  refine returnsInHanded_of_change (C := Try.checked) own started (by kernel_rfl) Try.func6
    (ChangeSpec.witness6 (enc := enc) (C := Try.checked) false ⟨#[], #[(.agg #[(.int .u64 0), (.int .i64 0), (.bool false), (.bool false), (.int .u8 0), (.bool false), (.int .u8 0), (.int .u32 0), (.bool false), (.int .u16 0), (.bool false), (.int .u8 0), (.int .u8 0), (.bool false), (.bool false), (.bool false), (.slice none 0 0)]), (.int .u16 0)], []⟩ 8 (by kernel_rfl) (by kernel_rfl) (by kernel_rfl) (by kernel_rfl)) ?_
  intro W base args ds gs before hval0 hW hcnd _
  have hval : ∀ (j : Nat) t v, Try.f6.params[j]? = some t → args[j]? = some v → Value.okWide Try.prog W .any base t v := hval0
  have hW' := hW
  obtain ⟨p, q, hA0, hV, rfl, hfz, hnd⟩ := hW
  have hA : DataW.TrodAll enc Try.prog W 0 (fun _ => true) true Try.f6.params.toList args.toList ds p := hA0
  rw [Try.params6] at hA hval
  obtain ⟨v0, vs0, d0, ds0, p0, q0, hargs, rfl, rfl, h0, r0⟩ := trodAll_cons hA
  obtain ⟨v1, vs1, d1, ds1, p1, q1, rfl, rfl, rfl, h1, r1⟩ := trodAll_cons r0
  obtain ⟨rfl, rfl, rfl⟩ := trodAll_nil r1
  obtain rfl : args = #[v0, v1] := by cases args; simp_all
  obtain ⟨rfl, rfl⟩ := trodVars_none hV
  have k0 := h0
  have lt0 : ∀ x ∈ p0, x.block < W.heap.size := by obtain ⟨m, hm⟩ := k0; exact DataW.trod_lt m _ _ _ hm
  obtain ⟨cs0, rfl, _⟩ := okWide_struct Try.underlying45 (hval 0 45 v0 rfl rfl)
  obtain ⟨x0, rfl, g0⟩ := top_agg Eq'.op h0
  have k1 := h1
  have lt1 : ∀ x ∈ p1, x.block < W.heap.size := by obtain ⟨m, hm⟩ := k1; exact DataW.trod_lt m _ _ _ hm
  obtain ⟨y1_0, rfl⟩ := okWide_int Try.underlying36 (hval 1 36 v1 rfl rfl)
  obtain ⟨x1, e1, g1⟩ := top_one op_int h1 rfl
  simp only [List.cons.injEq, Value.int.injEq, and_true, true_and] at e1
  subst e1
  clear hA0 hval0
  refine ((X.none' W x0 _ g0 g1).run W (Hp.start W)).mono fun e W' ⟨v, he, L', hL, hv⟩ => ?_
  subst he
  subst hv
  have bel := hL.below
  exact ⟨_, rfl, _, _, _, [], _, [], hW', trodAll_mk1 (shut_bool Try.underlying4 _), (trodAll_cons_mk (Below.trod laidOut (by kernel_rfl) (of_decide_eq_true (by kernel_rfl)) k0 bel lt0) (trodAll_cons_mk (Below.trod laidOut (by kernel_rfl) (of_decide_eq_true (by kernel_rfl)) k1 bel lt1) trodAll_mk0)), rfl, bel.frame _, fun h => by cases h⟩
theorem over : Rows.classesNoneRow.holds Try.pinned (OpenSpec.ofChange Rows.classesNoneSpec) :=
  OpenClaim.holds_of_wide 6 Try.f6 rfl rfl rfl rfl rfl rfl rfl ⟨rfl, rfl, rfl, rfl, rfl⟩ rfl rfl rfl rfl rfl (by kernel_rfl) Try.func6 (by kernel_rfl)
    (of_decide_eq_true (by kernel_rfl)) (by unfold Func.isWrapper; first | (rw [if_pos (by decide +kernel)]; kernel_rfl) | (rw [if_neg (by decide +kernel)]; exact ⟨rfl, rfl⟩))
    (fun os started H enc _ => lifted os started H enc)
theorem proved : Rows.ClassesNoneSaid := over
#print axioms proved
end Go.Proofs.Ytpheiklhjelkcaa.classesNone
namespace Go.Proofs.Ytpheiklhjelkcaa
/-- The row, under a short name, for the claim. -/
theorem classesNone_holds : Rows.ClassesNoneSaid := classesNone.proved
end Go.Proofs.Ytpheiklhjelkcaa
