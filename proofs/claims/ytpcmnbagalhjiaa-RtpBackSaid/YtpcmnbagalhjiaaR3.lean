/-
  RtpBack: what is written is parsed as it was; what is parsed is right, and written as it was; for every input, no condition.
-/
import Derived.Test.YtpcmnbagalhjiaaC1
import Derived.Test.YtpcmnbagalhjiaaRows
namespace Go.Proofs.Ytpcmnbagalhjiaa.X
open Go Go.RowKit
set_option linter.unusedVariables false
theorem back (W : World) (a0 : Pkt) (a1 : SlV Int) (g0 : a0.Good W) (g1 : a1.Good W (fun n : Int => [Value.int .u8 n]) (InK .u8)) : XF Try.prog W 5 #[.agg a0.enc.toArray, .slice a1.p a1.n a1.c] [] (fun v L' => v = .bool true) := by
  rw [Pkt.encE g0]
  exact xf_RtpBack a0.pk _ _ _ _ _ _ a1.p a1.n a1.c a1.l (Pkt.rs g0).1 (Pkt.rs g0).2.1 (Pkt.rs g0).2.2 (Pkt.rg g0) g1.len (by have := g1.rs; rwa [ints_flat] at this) (fun x hx => g1.all x hx) g1.cap (Nat.le_trans g1.cap g1.max)
end Go.Proofs.Ytpcmnbagalhjiaa.X
namespace Go.Proofs.Ytpcmnbagalhjiaa.rtpBack
open Go.ChangeShapes Go.WideShapes Go.ChangeAt Go.RowKit Go.Proofs.Ytpcmnbagalhjiaa.X
set_option linter.unusedVariables false
theorem own : ownKnob Try.prog.godebug = none := by kernel_rfl
theorem laidOut : laidOutB Try.prog = true := by kernel_rfl
set_option maxRecDepth 100000 in
theorem lifted (os : Os) (started : os.Started) (H : Type) (enc : TypeId × Value → H) :
    ReturnsInHanded {} Try.checked os 5 .any (Rows.rtpBackSpec.pre6 enc Try.prog Try.f5 Rows.rtpBackRow.domain false) (Rows.rtpBackSpec.post enc Try.prog Try.f5 false true false false) := by
  refine returnsInHanded_of_change (C := Try.checked) own started (by kernel_rfl) Try.func5
    (ChangeSpec.witness6 (enc := enc) (C := Try.checked) false ⟨#[], #[(.agg #[(.bool false), (.int .u8 0), (.int .u16 0), (.int .u32 0), (.int .u32 0), (.slice none 0 0), (.bool false), (.int .u16 0), (.slice none 0 0), (.slice none 0 0), (.int .u8 0)]), (.slice none 0 0)], []⟩ 8 (by kernel_rfl) (by kernel_rfl) (by kernel_rfl) (by kernel_rfl)) ?_
  intro W base args ds gs before hval0 hW hcnd _
  have hval : ∀ (j : Nat) t v, Try.f5.params[j]? = some t → args[j]? = some v → Value.okWide Try.prog W .any base t v := hval0
  have hW' := hW
  obtain ⟨p, q, hA0, hV, rfl, hfz, hnd⟩ := hW
  have hA : DataW.TrodAll enc Try.prog W 0 (fun _ => true) true Try.f5.params.toList args.toList ds p := hA0
  rw [Try.params5] at hA hval
  obtain ⟨v0, vs0, d0, ds0, p0, q0, hargs, rfl, rfl, h0, r0⟩ := trodAll_cons hA
  obtain ⟨v1, vs1, d1, ds1, p1, q1, rfl, rfl, rfl, h1, r1⟩ := trodAll_cons r0
  obtain ⟨rfl, rfl, rfl⟩ := trodAll_nil r1
  obtain rfl : args = #[v0, v1] := by cases args; simp_all
  obtain ⟨rfl, rfl⟩ := trodVars_none hV
  have k0 := h0
  have lt0 : ∀ x ∈ p0, x.block < W.heap.size := by obtain ⟨m, hm⟩ := k0; exact DataW.trod_lt m _ _ _ hm
  obtain ⟨cs0, rfl, _⟩ := okWide_struct Try.underlying33 (hval 0 33 v0 rfl rfl)
  obtain ⟨x0, rfl, g0⟩ := top_agg Pkt.op h0
  have k1 := h1
  have lt1 : ∀ x ∈ p1, x.block < W.heap.size := by obtain ⟨m, hm⟩ := k1; exact DataW.trod_lt m _ _ _ hm
  obtain ⟨y1_0, y1_1, y1_2, rfl⟩ := okWide_slice Try.underlying22 (hval 1 22 v1 rfl rfl)
  obtain ⟨x1, e1, g1⟩ := top_one (op_slice (T := 22) (e := 5) op_int (fun _ => rfl) (by decide)) h1 rfl
  obtain ⟨xp1, xn1, xc1, xl1⟩ := x1
  simp only [SlV.enc, List.cons.injEq, Value.slice.injEq, and_true] at e1
  obtain ⟨rfl, rfl, rfl⟩ := e1
  clear hA0 hval0
  refine ((X.back W x0 ⟨_, _, _, xl1⟩ g0 g1).run W (Hp.start W)).mono fun e W' ⟨v, he, L', hL, hv⟩ => ?_
  subst he
  subst hv
  have bel := hL.below
  exact ⟨_, rfl, _, _, _, [], _, [], hW', trodAll_mk1 (shut_bool Try.underlying4 _), (trodAll_cons_mk (Below.trod laidOut (by kernel_rfl) (of_decide_eq_true (by kernel_rfl)) k0 bel lt0) (trodAll_cons_mk (Below.trod laidOut (by kernel_rfl) (of_decide_eq_true (by kernel_rfl)) k1 bel lt1) trodAll_mk0)), rfl, bel.frame _, fun h => by cases h⟩
theorem over : Rows.rtpBackRow.holds Try.pinned (OpenSpec.ofChange Rows.rtpBackSpec) :=
  OpenClaim.holds_of_wide 5 Try.f5 rfl rfl rfl rfl rfl rfl rfl ⟨rfl, rfl, rfl, rfl, rfl⟩ rfl rfl rfl rfl rfl (by kernel_rfl) Try.func5 (by kernel_rfl)
    (of_decide_eq_true (by kernel_rfl)) (by unfold Func.isWrapper; first | (rw [if_pos (by decide +kernel)]; kernel_rfl) | (rw [if_neg (by decide +kernel)]; exact ⟨rfl, rfl⟩))
    (fun os started H enc _ => lifted os started H enc)
theorem proved : Rows.RtpBackSaid := over
#print axioms proved
end Go.Proofs.Ytpcmnbagalhjiaa.rtpBack
namespace Go.Proofs.Ytpcmnbagalhjiaa
/-- The row, under a short name, for the claim. -/
theorem rtpBack_holds : Rows.RtpBackSaid := rtpBack.proved
end Go.Proofs.Ytpcmnbagalhjiaa
