/-
  RtcpBack: what is joined is split as it was; what is split is right, and joined as the same bytes, but for the padding's; for every input, no condition.
-/
import Derived.Test.YtohlaabclifbfaaC3
import Derived.Test.YtohlaabclifbfaaRows
namespace Go.Proofs.Ytohlaabclifbfaa.X
open Go Go.RowKit
set_option linter.unusedVariables false
theorem backs (W : World) (a0 : SlV Pkc) (a1 : SlV Int) (g0 : a0.Good W Pkc.enc (Pkc.Good W)) (g1 : a1.Good W (fun n : Int => [Value.int .u8 n]) (InK .u8)) : XF Try.prog W 4 #[.slice a0.p a0.n a0.c, .slice a1.p a1.n a1.c] [] (fun v L' => v = .bool true) := by
  have h := Pkc.rows g0
  exact xf_RtcpBack a0.p a0.n a0.c (a0.l.map Pkc.pb) h.len h.rs h.bd h.rg h.le h.max a1.p a1.n a1.c a1.l g1.len (by have := g1.rs; rwa [ints_flat] at this) (fun x hx => g1.all x hx) g1.cap (Nat.le_trans g1.cap g1.max)
end Go.Proofs.Ytohlaabclifbfaa.X
namespace Go.Proofs.Ytohlaabclifbfaa.rtcpBack
open Go.ChangeShapes Go.WideShapes Go.ChangeAt Go.RowKit Go.Proofs.Ytohlaabclifbfaa.X
set_option linter.unusedVariables false
theorem own : ownKnob Try.prog.godebug = none := by kernel_rfl
theorem laidOut : laidOutB Try.prog = true := by kernel_rfl
set_option maxRecDepth 100000 in
theorem lifted (os : Os) (started : os.Started) (H : Type) (enc : TypeId × Value → H) :
    ReturnsInHanded {} Try.checked os 4 .any (Rows.rtcpBackSpec.pre6 enc Try.prog Try.f4 Rows.rtcpBackRow.domain false) (Rows.rtcpBackSpec.post enc Try.prog Try.f4 false true false false) := by
  refine returnsInHanded_of_change (C := Try.checked) own started (by kernel_rfl) Try.func4
    (ChangeSpec.witness6 (enc := enc) (C := Try.checked) false ⟨#[], #[(.slice none 0 0), (.slice none 0 0)], []⟩ 8 (by kernel_rfl) (by kernel_rfl) (by kernel_rfl) (by kernel_rfl)) ?_
  intro W base args ds gs before hval0 hW hcnd _
  have hval : ∀ (j : Nat) t v, Try.f4.params[j]? = some t → args[j]? = some v → Value.okWide Try.prog W .any base t v := hval0
  have hW' := hW
  obtain ⟨p, q, hA0, hV, rfl, hfz, hnd⟩ := hW
  have hA : DataW.TrodAll enc Try.prog W 0 (fun _ => true) true Try.f4.params.toList args.toList ds p := hA0
  rw [Try.params4] at hA hval
  obtain ⟨v0, vs0, d0, ds0, p0, q0, hargs, rfl, rfl, h0, r0⟩ := trodAll_cons hA
  obtain ⟨v1, vs1, d1, ds1, p1, q1, rfl, rfl, rfl, h1, r1⟩ := trodAll_cons r0
  obtain ⟨rfl, rfl, rfl⟩ := trodAll_nil r1
  obtain rfl : args = #[v0, v1] := by cases args; simp_all
  obtain ⟨rfl, rfl⟩ := trodVars_none hV
  have k0 := h0
  have lt0 : ∀ x ∈ p0, x.block < W.heap.size := by obtain ⟨m, hm⟩ := k0; exact DataW.trod_lt m _ _ _ hm
  obtain ⟨y0_0, y0_1, y0_2, rfl⟩ := okWide_slice Try.underlying29 (hval 0 29 v0 rfl rfl)
  obtain ⟨x0, e0, g0⟩ := top_one (op_slice (T := 29) (e := 35) Pkc.op Pkc.len (by decide)) h0 rfl
  obtain ⟨xp0, xn0, xc0, xl0⟩ := x0
  simp only [SlV.enc, List.cons.injEq, Value.slice.injEq, and_true] at e0
  obtain ⟨rfl, rfl, rfl⟩ := e0
  have k1 := h1
  have lt1 : ∀ x ∈ p1, x.block < W.heap.size := by obtain ⟨m, hm⟩ := k1; exact DataW.trod_lt m _ _ _ hm
  obtain ⟨y1_0, y1_1, y1_2, rfl⟩ := okWide_slice Try.underlying22 (hval 1 22 v1 rfl rfl)
  obtain ⟨x1, e1, g1⟩ := top_one (op_slice (T := 22) (e := 5) op_int (fun _ => rfl) (by decide)) h1 rfl
  obtain ⟨xp1, xn1, xc1, xl1⟩ := x1
  simp only [SlV.enc, List.cons.injEq, Value.slice.injEq, and_true] at e1
  obtain ⟨rfl, rfl, rfl⟩ := e1
  clear hA0 hval0
  refine ((X.backs W ⟨_, _, _, xl0⟩ ⟨_, _, _, xl1⟩ g0 g1).run W (Hp.start W)).mono fun e W' ⟨v, he, L', hL, hv⟩ => ?_
  subst he
  subst hv
  have bel := hL.below
  exact ⟨_, rfl, _, _, _, [], _, [], hW', trodAll_mk1 (shut_bool Try.underlying4 _), (trodAll_cons_mk (Below.trod laidOut (by kernel_rfl) (of_decide_eq_true (by kernel_rfl)) k0 bel lt0) (trodAll_cons_mk (Below.trod laidOut (by kernel_rfl) (of_decide_eq_true (by kernel_rfl)) k1 bel lt1) trodAll_mk0)), rfl, bel.frame _, fun h => by cases h⟩
theorem over : Rows.rtcpBackRow.holds Try.pinned (OpenSpec.ofChange Rows.rtcpBackSpec) :=
  OpenClaim.holds_of_wide 4 Try.f4 rfl rfl rfl rfl rfl rfl rfl ⟨rfl, rfl, rfl, rfl, rfl⟩ rfl rfl rfl rfl rfl (by kernel_rfl) Try.func4 (by kernel_rfl)
    (of_decide_eq_true (by kernel_rfl)) (by unfold Func.isWrapper; first | (rw [if_pos (by decide +kernel)]; kernel_rfl) | (rw [if_neg (by decide +kernel)]; exact ⟨rfl, rfl⟩))
    (fun os started H enc _ => lifted os started H enc)
theorem proved : Rows.RtcpBackSaid := over
#print axioms proved
end Go.Proofs.Ytohlaabclifbfaa.rtcpBack
namespace Go.Proofs.Ytohlaabclifbfaa
/-- The row, under a short name, for the claim. -/
theorem rtcpBack_holds : Rows.RtcpBackSaid := rtcpBack.proved
end Go.Proofs.Ytohlaabclifbfaa
