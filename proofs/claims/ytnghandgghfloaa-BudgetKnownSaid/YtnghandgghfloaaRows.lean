/-
  No cell of these rows narrows 'for every input' (looked for: loops, veiled, ifaces, maps, wideKeys, modest, calm, conditions, laid).
  DERIVED. THE GIVEN ROWS OF THIS SEAT. 4 by the template 'for every input the law returns true; each argument reads behind the call as it read before'; 0 by the template 'total and deterministic' (their statements: YtnghandgghfloaaTotals.lean).
  GIVEN WITH THE SEED: the statements are not yours to turn. If you find one false, say at which input.
  Laid BY PROGRAM, IN A SANDBOX (cutbox-rows.mjs): the forced cells as the released guide's own fill.sh prints them over the translation a3fe8b2b1c389bc3… (all of the seat's roots in one cut). By AI agents, Wed Nov 11 2026. No macro, syntax, notation, axiom, sorry.
-/
import Derived.Test.YtnghandgghfloaaChecked
import GoSem.Claim
import GoSem.ClaimJoined
import GoSem.ClaimMapViews
import Derived.JoinedTies
import Derived.KernelRfl
namespace Go.Proofs.Ytnghandgghfloaa
/- THE CELL 'sum', in the pinned program and in every row, IS THE sha256 OF THE DUMP (.gsa) THAT YtnghandgghfloaaProg.lean LOADS. Nothing in Lean hashes anything: it is a label: what it is worth is what the hold of that sum in a sandbox is worth. -/
noncomputable def Try.pinned : Pinned := { name := "ytnghandgghfloaa", sum := "a3fe8b2b1c389bc3cdf87a084d2225b054ce12e3a8c23d36e5a10b3f87477a7b", checked := Try.checked }
namespace Rows
def none {H : Type} : Left H := { results := [], args := [] }

/-- 'easellaw21.BudgetAllocates': WHATEVER THE INPUT: true; the input reads as it did. -/
def budgetAllocatesSpec : ChangeSpec := { name := "budgetAllocates", fn := fun _ => fun
  | [d1, d2] => { results := [.lit (.bool true)], args := [d1, d2] }
  | _ => none }
def budgetAllocatesRow : OpenClaim := { program := "ytnghandgghfloaa", sum := "a3fe8b2b1c389bc3cdf87a084d2225b054ce12e3a8c23d36e5a10b3f87477a7b", func := "easel/easellaw21.BudgetAllocates", spec := "budgetAllocates", unfollowed := true, recurses := true, apart := false }
def BudgetAllocatesSaid : Prop := budgetAllocatesRow.holds Try.pinned (OpenSpec.ofChange budgetAllocatesSpec)

/-- ITS FALSE NEIGHBOUR: 'it returns false'. Refute it at one input. -/
def budgetAllocatesWrong : ChangeSpec := { name := "budgetAllocates", fn := fun _ => fun
  | [d1, d2] => { results := [.lit (.bool false)], args := [d1, d2] }
  | _ => none }
def BudgetAllocatesWrongFalsely : Prop := budgetAllocatesRow.holds Try.pinned (OpenSpec.ofChange budgetAllocatesWrong)

/-- 'easellaw21.BudgetFair': WHATEVER THE INPUT: true; the input reads as it did. -/
def budgetFairSpec : ChangeSpec := { name := "budgetFair", fn := fun _ => fun
  | [d1, d2, d3] => { results := [.lit (.bool true)], args := [d1, d2, d3] }
  | _ => none }
def budgetFairRow : OpenClaim := { program := "ytnghandgghfloaa", sum := "a3fe8b2b1c389bc3cdf87a084d2225b054ce12e3a8c23d36e5a10b3f87477a7b", func := "easel/easellaw21.BudgetFair", spec := "budgetFair", unfollowed := true, recurses := true, apart := false }
def BudgetFairSaid : Prop := budgetFairRow.holds Try.pinned (OpenSpec.ofChange budgetFairSpec)

/-- ITS FALSE NEIGHBOUR: 'it returns false'. Refute it at one input. -/
def budgetFairWrong : ChangeSpec := { name := "budgetFair", fn := fun _ => fun
  | [d1, d2, d3] => { results := [.lit (.bool false)], args := [d1, d2, d3] }
  | _ => none }
def BudgetFairWrongFalsely : Prop := budgetFairRow.holds Try.pinned (OpenSpec.ofChange budgetFairWrong)

/-- 'easellaw21.BudgetPlans': WHATEVER THE INPUT: true; the input reads as it did. -/
def budgetPlansSpec : ChangeSpec := { name := "budgetPlans", fn := fun _ => fun
  | [d1, d2, d3] => { results := [.lit (.bool true)], args := [d1, d2, d3] }
  | _ => none }
def budgetPlansRow : OpenClaim := { program := "ytnghandgghfloaa", sum := "a3fe8b2b1c389bc3cdf87a084d2225b054ce12e3a8c23d36e5a10b3f87477a7b", func := "easel/easellaw21.BudgetPlans", spec := "budgetPlans", unfollowed := true, recurses := true, apart := false }
def BudgetPlansSaid : Prop := budgetPlansRow.holds Try.pinned (OpenSpec.ofChange budgetPlansSpec)

/-- ITS FALSE NEIGHBOUR: 'it returns false'. Refute it at one input. -/
def budgetPlansWrong : ChangeSpec := { name := "budgetPlans", fn := fun _ => fun
  | [d1, d2, d3] => { results := [.lit (.bool false)], args := [d1, d2, d3] }
  | _ => none }
def BudgetPlansWrongFalsely : Prop := budgetPlansRow.holds Try.pinned (OpenSpec.ofChange budgetPlansWrong)

/-- 'easellaw21.BudgetKnown': WHATEVER THE INPUT: true; the input reads as it did. -/
def budgetKnownSpec : ChangeSpec := { name := "budgetKnown", fn := fun _ => fun
  | [] => { results := [.lit (.bool true)], args := [] }
  | _ => none }
def budgetKnownRow : OpenClaim := { program := "ytnghandgghfloaa", sum := "a3fe8b2b1c389bc3cdf87a084d2225b054ce12e3a8c23d36e5a10b3f87477a7b", func := "easel/easellaw21.BudgetKnown", spec := "budgetKnown", unfollowed := true, recurses := true, apart := false }
def BudgetKnownSaid : Prop := budgetKnownRow.holds Try.pinned (OpenSpec.ofChange budgetKnownSpec)

/-- ITS FALSE NEIGHBOUR: 'it returns false'. Refute it at one input. -/
def budgetKnownWrong : ChangeSpec := { name := "budgetKnown", fn := fun _ => fun
  | [] => { results := [.lit (.bool false)], args := [] }
  | _ => none }
def BudgetKnownWrongFalsely : Prop := budgetKnownRow.holds Try.pinned (OpenSpec.ofChange budgetKnownWrong)

/- THE SECOND FORM. 'bulk': how many values and letters a reading holds, each counted each time it is reached (what is shared counts as often as it is met; a slice's spare places count too). A statement '..UptoSaid' is the law's where the arguments, and the package variables that the reading takes, are together of bulk at most 1048576: NARROWER than '..Said'. Prove '..Said' where nothing that the law and all that it calls make is longer than what came in: it says more and counts as full. Else prove '..UptoSaid'. A law counts once. -/
mutual
def uptoBulk {H : Type} : DataW H → Nat
  | .lit (.string bytes) => bytes.length + 1
  | .lit _ => 1
  | .nil => 1
  | .ptr d => uptoBulk d + 1
  | .slice elems spare => uptoBulkAll elems + uptoBulkAll spare + 1
  | .agg parts => uptoBulkAll parts + 1
  | .iface _ d => uptoBulk d + 1
  | .map entries => uptoBulkEntries entries + 1
  | .held _ => 1
def uptoBulkAll {H : Type} : List (DataW H) → Nat
  | [] => 0
  | d :: r => uptoBulk d + uptoBulkAll r
def uptoBulkEntries {H : Type} : List (Lit × DataW H) → Nat
  | [] => 0
  | x :: r => uptoBulkEntry x + uptoBulkEntries r
def uptoBulkEntry {H : Type} : Lit × DataW H → Nat
  | (.string bytes, d) => bytes.length + uptoBulk d + 1
  | (_, d) => uptoBulk d + 1
 end
def uptoSmall : (H : Type) → List (DataW H) → Bool := fun _ ds => decide (uptoBulkAll ds ≤ 1048576)
def OpenSpec.upto (s : _root_.Go.ChangeSpec) : _root_.Go.OpenSpec := { _root_.Go.OpenSpec.ofChange s with cond := some uptoSmall }

/-- 'easellaw21.BudgetAllocates', WHERE WHAT IT READS IS OF BULK AT MOST 1048576: true; the input reads as it did. -/
def budgetAllocatesUptoRow : OpenClaim := { program := "ytnghandgghfloaa", sum := "a3fe8b2b1c389bc3cdf87a084d2225b054ce12e3a8c23d36e5a10b3f87477a7b", func := "easel/easellaw21.BudgetAllocates", spec := "budgetAllocates", unfollowed := true, recurses := true, apart := false, narrowed := true }
def BudgetAllocatesUptoSaid : Prop := budgetAllocatesUptoRow.holds Try.pinned (OpenSpec.upto budgetAllocatesSpec)

/-- 'easellaw21.BudgetFair', WHERE WHAT IT READS IS OF BULK AT MOST 1048576: true; the input reads as it did. -/
def budgetFairUptoRow : OpenClaim := { program := "ytnghandgghfloaa", sum := "a3fe8b2b1c389bc3cdf87a084d2225b054ce12e3a8c23d36e5a10b3f87477a7b", func := "easel/easellaw21.BudgetFair", spec := "budgetFair", unfollowed := true, recurses := true, apart := false, narrowed := true }
def BudgetFairUptoSaid : Prop := budgetFairUptoRow.holds Try.pinned (OpenSpec.upto budgetFairSpec)

/-- 'easellaw21.BudgetPlans', WHERE WHAT IT READS IS OF BULK AT MOST 1048576: true; the input reads as it did. -/
def budgetPlansUptoRow : OpenClaim := { program := "ytnghandgghfloaa", sum := "a3fe8b2b1c389bc3cdf87a084d2225b054ce12e3a8c23d36e5a10b3f87477a7b", func := "easel/easellaw21.BudgetPlans", spec := "budgetPlans", unfollowed := true, recurses := true, apart := false, narrowed := true }
def BudgetPlansUptoSaid : Prop := budgetPlansUptoRow.holds Try.pinned (OpenSpec.upto budgetPlansSpec)

/-- 'easellaw21.BudgetKnown', WHERE WHAT IT READS IS OF BULK AT MOST 1048576: true; the input reads as it did. -/
def budgetKnownUptoRow : OpenClaim := { program := "ytnghandgghfloaa", sum := "a3fe8b2b1c389bc3cdf87a084d2225b054ce12e3a8c23d36e5a10b3f87477a7b", func := "easel/easellaw21.BudgetKnown", spec := "budgetKnown", unfollowed := true, recurses := true, apart := false, narrowed := true }
def BudgetKnownUptoSaid : Prop := budgetKnownUptoRow.holds Try.pinned (OpenSpec.upto budgetKnownSpec)

end Rows
end Go.Proofs.Ytnghandgghfloaa
