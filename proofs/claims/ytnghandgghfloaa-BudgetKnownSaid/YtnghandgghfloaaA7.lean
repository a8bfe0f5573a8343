/-
  All plans, one behind another: walks of my own.
-/
import Derived.Test.YtnghandgghfloaaA6
import Derived.Test.YtnghandgghfloaaX16
namespace Go.Proofs.Ytnghandgghfloaa.X
open Go Go.RowKit
set_option linter.unusedVariables false
set_option linter.unusedSimpArgs false
theorem xf_all {W : World} {L : List Blk} (p q : Option Addr) (n c m d : Nat) : XF Try.prog W 24 #[.agg #[.slice p n c, .slice q m d]] L (fun v L' => ∃ r, v = .func (.func 30) #[] #[.pointer (some ⟨r, 0, none⟩)] ∧ L' = (r, .cells #[.slice p n c, .slice q m d] 25 (0, 0)) :: L) := by
  refine xf_enter (args := [_]) Try.func24 rfl Try.ntmps24 rfl ?_
  focus
    refine xc_seq ?_
    refine xc_region ?_
    refine xo_ef rfl (ef_box rfl fun r1 => ?_)
    refine xo_rd (rd_assign rfl) rfl ?_
    refine xo_nil ?_
    refine xq_seq ?_
    refine xc_seq ?_
    refine xc_region ?_
    refine xo_rd (rd_makeFunc (first := []) (captured := [_]) rfl rfl) rfl ?_
    refine xo_rd (rd_assign rfl) rfl ?_
    refine xo_nil ?_
    refine xq_seq ?_
    refine xc_ret ?_
  exact xq_ret1 (.inl rfl) Try.results24 rfl ⟨r1, rfl, rfl⟩
end Go.Proofs.Ytnghandgghfloaa.X
