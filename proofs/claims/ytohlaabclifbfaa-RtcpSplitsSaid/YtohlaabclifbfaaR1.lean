/-
  RtcpSplits: any bytes are the compound that the document says, or the first error; for every input, no condition.
-/
import Derived.Test.YtohlaabclifbfaaB8
import Derived.Test.YtohlaabclifbfaaX7
import Derived.Test.YtohlaabclifbfaaRows
namespace Go.Proofs.Ytohlaabclifbfaa.X
open Go Go.RowKit
set_option linter.unusedVariables false
theorem splits (W : World) (a0 : SlV Int) (g0 : a0.Good W (fun n : Int => [Value.int .u8 n]) (InK .u8)) : XF Try.prog W 3 #[.slice a0.p a0.n a0.c] [] (fun v L' => v = .bool true) :=
  xf_RtcpSplits a0.p a0.n a0.c a0.l g0.len (by have := g0.rs; rwa [ints_flat] at this) (fun x hx => g0.all x hx) g0.cap (Nat.le_trans g0.cap g0.max)
end Go.Proofs.Ytohlaabclifbfaa.X
namespace Go.Proofs.Ytohlaabclifbfaa.rtcpSplits
open Go.ChangeShapes Go.WideShapes Go.ChangeAt Go.RowKit Go.Proofs.Ytohlaabclifbfaa.X
set_option linter.unusedVariables false
theorem own : ownKnob Try.prog.godebug = none := by kernel_rfl
theorem laidOut : laidOutB Try.prog = true := by kernel_rfl
set_option maxRecDepth 100000 in
theorem lifted (os : Os) (started : os.Started) (H : Type) (enc : TypeId × Value → H) :
    ReturnsInHanded {} Try.checked os 3 .any (Rows.rtcpSplitsSpec.pre6 enc Try.prog Try.f3 Rows.rtcpSplitsRow.domain false) (Rows.rtcpSplitsSpec.post enc Try.prog Try.f3 false true false false) := by
  refine returnsInHanded_of_change (C := Try.checked) own started (by kernel_rfl) Try.func3
    (ChangeSpec.witness6 (enc := enc) (C := Try.checked) false ⟨#[], #[(.slice none 0 0)], []⟩ 8 (by kernel_rfl) (by kernel_rfl) (by kernel_rfl) (by kernel_rfl)) ?_
  intro W base args ds gs before hval0 hW hcnd _
  have hval : ∀ (j : Nat) t v, Try.f3.params[j]? = some t → args[j]? = some v → Value.okWide Try.prog W .any base t v := hval0
  have hW' := hW
  obtain ⟨p, q, hA0, hV, rfl, hfz, hnd⟩ := hW
  have hA : DataW.TrodAll enc Try.prog W 0 (fun _ => true) true Try.f3.params.toList args.toList ds p := hA0
  rw [Try.params3] at hA hval
  obtain ⟨v0, vs0, d0, ds0, p0, q0, hargs, rfl, rfl, h0, r0⟩ := trodAll_cons hA
  obtain ⟨rfl, rfl, rfl⟩ := trodAll_nil r0
  obtain rfl : args = #[v0] := by cases args; simp_all
  obtain ⟨rfl, rfl⟩ := trodVars_none hV
  have k0 := h0
  have lt0 : ∀ x ∈ p0, x.block < W.heap.size := by obtain ⟨m, hm⟩ := k0; exact DataW.trod_lt m _ _ _ hm
  obtain ⟨y0_0, y0_1, y0_2, rfl⟩ := okWide_slice Try.underlying22 (hval 0 22 v0 rfl rfl)
  obtain ⟨x0, e0, g0⟩ := top_one (op_slice (T := 22) (e := 5) op_int (fun _ => rfl) (by decide)) h0 rfl
  obtain ⟨xp0, xn0, xc0, xl0⟩ := x0
  simp only [SlV.enc, List.cons.injEq, Value.slice.injEq, and_true] at e0
  obtain ⟨rfl, rfl, rfl⟩ := e0
  clear hA0 hval0
  refine ((X.splits W ⟨_, _, _, xl0⟩ g0).run W (Hp.start W)).mono fun e W' ⟨v, he, L', hL, hv⟩ => ?_
  subst he
  subst hv
  have bel := hL.below
  exact ⟨_, rfl, _, _, _, [], _, [], hW', trodAll_mk1 (shut_bool Try.underlying4 _), (trodAll_cons_mk (Below.trod laidOut (by kernel_rfl) (of_decide_eq_true (by kernel_rfl)) k0 bel lt0) trodAll_mk0), rfl, bel.frame _, fun h => by cases h⟩
theorem over : Rows.rtcpSplitsRow.holds Try.pinned (OpenSpec.ofChange Rows.rtcpSplitsSpec) :=
  OpenClaim.holds_of_wide 3 Try.f3 rfl rfl rfl rfl rfl rfl rfl ⟨rfl, rfl, rfl, rfl, rfl⟩ rfl rfl rfl rfl rfl (by kernel_rfl) Try.func3 (by kernel_rfl)
    (of_decide_eq_true (by kernel_rfl)) (by unfold Func.isWrapper; first | (rw [if_pos (by decide +kernel)]; kernel_rfl) | (rw [if_neg (by decide +kernel)]; exact ⟨rfl, rfl⟩))
    (fun os started H enc _ => lifted os started H enc)
theorem proved : Rows.RtcpSplitsSaid := over
#print axioms proved
end Go.Proofs.Ytohlaabclifbfaa.rtcpSplits
namespace Go.Proofs.Ytohlaabclifbfaa
/-- The row, under a short name, for the claim. -/
theorem rtcpSplits_holds : Rows.RtcpSplitsSaid := rtcpSplits.proved
end Go.Proofs.Ytohlaabclifbfaa
