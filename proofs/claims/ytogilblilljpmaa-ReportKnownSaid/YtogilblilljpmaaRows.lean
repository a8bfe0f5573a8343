/-
  No cell of these rows narrows 'for every input' (looked for: loops, veiled, ifaces, maps, wideKeys, modest, calm, conditions, laid).
  DERIVED. THE GIVEN ROWS OF THIS SEAT. 5 by the template 'for every input the law returns true; each argument reads behind the call as it read before'; 0 by the template 'total and deterministic' (their statements: YtogilblilljpmaaTotals.lean).
  GIVEN WITH THE SEED: the statements are not yours to turn. If you find one false, say at which input.
  Laid BY PROGRAM, IN A SANDBOX (cutbox-rows.mjs): the forced cells as the released guide's own fill.sh prints them over the translation d95578aedacfb44e… (all of the seat's roots in one cut). By AI agents, Wed Nov 11 2026. No macro, syntax, notation, axiom, sorry.
-/
import Derived.Test.YtogilblilljpmaaChecked
import GoSem.Claim
import GoSem.ClaimJoined
import GoSem.ClaimMapViews
import Derived.JoinedTies
import Derived.KernelRfl
namespace Go.Proofs.Ytogilblilljpmaa
/- THE CELL 'sum', in the pinned program and in every row, IS THE sha256 OF THE DUMP (.gsa) THAT YtogilblilljpmaaProg.lean LOADS. Nothing in Lean hashes anything: it is a label: what it is worth is what the hold of that sum in a sandbox is worth. -/
noncomputable def Try.pinned : Pinned := { name := "ytogilblilljpmaa", sum := "d95578aedacfb44eb83e7446bae22062043b678fed63e5be3154667675c3c3db", checked := Try.checked }
namespace Rows
def none {H : Type} : Left H := { results := [], args := [] }

/-- 'easellaw24.ReportClocks': WHATEVER THE INPUT: true; the input reads as it did. -/
def reportClocksSpec : ChangeSpec := { name := "reportClocks", fn := fun _ => fun
  | [d1, d2] => { results := [.lit (.bool true)], args := [d1, d2] }
  | _ => none }
def reportClocksRow : OpenClaim := { program := "ytogilblilljpmaa", sum := "d95578aedacfb44eb83e7446bae22062043b678fed63e5be3154667675c3c3db", func := "easel/easellaw24.ReportClocks", spec := "reportClocks", apart := false }
def ReportClocksSaid : Prop := reportClocksRow.holds Try.pinned (OpenSpec.ofChange reportClocksSpec)

/-- ITS FALSE NEIGHBOUR: 'it returns false'. Refute it at one input. -/
def reportClocksWrong : ChangeSpec := { name := "reportClocks", fn := fun _ => fun
  | [d1, d2] => { results := [.lit (.bool false)], args := [d1, d2] }
  | _ => none }
def ReportClocksWrongFalsely : Prop := reportClocksRow.holds Try.pinned (OpenSpec.ofChange reportClocksWrong)

/-- 'easellaw24.ReportHears': WHATEVER THE INPUT: true; the input reads as it did. -/
def reportHearsSpec : ChangeSpec := { name := "reportHears", fn := fun _ => fun
  | [d1, d2, d3, d4] => { results := [.lit (.bool true)], args := [d1, d2, d3, d4] }
  | _ => none }
def reportHearsRow : OpenClaim := { program := "ytogilblilljpmaa", sum := "d95578aedacfb44eb83e7446bae22062043b678fed63e5be3154667675c3c3db", func := "easel/easellaw24.ReportHears", spec := "reportHears", apart := false }
def ReportHearsSaid : Prop := reportHearsRow.holds Try.pinned (OpenSpec.ofChange reportHearsSpec)

/-- ITS FALSE NEIGHBOUR: 'it returns false'. Refute it at one input. -/
def reportHearsWrong : ChangeSpec := { name := "reportHears", fn := fun _ => fun
  | [d1, d2, d3, d4] => { results := [.lit (.bool false)], args := [d1, d2, d3, d4] }
  | _ => none }
def ReportHearsWrongFalsely : Prop := reportHearsRow.holds Try.pinned (OpenSpec.ofChange reportHearsWrong)

/-- 'easellaw24.ReportNone': WHATEVER THE INPUT: true; the input reads as it did. -/
def reportNoneSpec : ChangeSpec := { name := "reportNone", fn := fun _ => fun
  | [d1, d2] => { results := [.lit (.bool true)], args := [d1, d2] }
  | _ => none }
def reportNoneRow : OpenClaim := { program := "ytogilblilljpmaa", sum := "d95578aedacfb44eb83e7446bae22062043b678fed63e5be3154667675c3c3db", func := "easel/easellaw24.ReportNone", spec := "reportNone", inPlace := ["sync/atomic.AddUint64", "sync/atomic.StoreUint32", "sync/atomic.StoreUint64", "sync/atomic.LoadUint64", "sync/atomic.LoadUint32"], apart := false }
def ReportNoneSaid : Prop := reportNoneRow.holds Try.pinned (OpenSpec.ofChange reportNoneSpec)

/-- ITS FALSE NEIGHBOUR: 'it returns false'. Refute it at one input. -/
def reportNoneWrong : ChangeSpec := { name := "reportNone", fn := fun _ => fun
  | [d1, d2] => { results := [.lit (.bool false)], args := [d1, d2] }
  | _ => none }
def ReportNoneWrongFalsely : Prop := reportNoneRow.holds Try.pinned (OpenSpec.ofChange reportNoneWrong)

/-- 'easellaw24.ReportCounts': WHATEVER THE INPUT: true; the input reads as it did. -/
def reportCountsSpec : ChangeSpec := { name := "reportCounts", fn := fun _ => fun
  | [d1, d2, d3, d4, d5] => { results := [.lit (.bool true)], args := [d1, d2, d3, d4, d5] }
  | _ => none }
def reportCountsRow : OpenClaim := { program := "ytogilblilljpmaa", sum := "d95578aedacfb44eb83e7446bae22062043b678fed63e5be3154667675c3c3db", func := "easel/easellaw24.ReportCounts", spec := "reportCounts", inPlace := ["sync/atomic.LoadUint64", "sync/atomic.LoadUint32", "sync/atomic.AddUint64", "sync/atomic.StoreUint32", "sync/atomic.StoreUint64"], apart := false }
def ReportCountsSaid : Prop := reportCountsRow.holds Try.pinned (OpenSpec.ofChange reportCountsSpec)

/-- ITS FALSE NEIGHBOUR: 'it returns false'. Refute it at one input. -/
def reportCountsWrong : ChangeSpec := { name := "reportCounts", fn := fun _ => fun
  | [d1, d2, d3, d4, d5] => { results := [.lit (.bool false)], args := [d1, d2, d3, d4, d5] }
  | _ => none }
def ReportCountsWrongFalsely : Prop := reportCountsRow.holds Try.pinned (OpenSpec.ofChange reportCountsWrong)

/-- 'easellaw24.ReportKnown': WHATEVER THE INPUT: true; the input reads as it did. -/
def reportKnownSpec : ChangeSpec := { name := "reportKnown", fn := fun _ => fun
  | [] => { results := [.lit (.bool true)], args := [] }
  | _ => none }
def reportKnownRow : OpenClaim := { program := "ytogilblilljpmaa", sum := "d95578aedacfb44eb83e7446bae22062043b678fed63e5be3154667675c3c3db", func := "easel/easellaw24.ReportKnown", spec := "reportKnown", inPlace := ["sync/atomic.LoadUint64", "sync/atomic.LoadUint32", "sync/atomic.AddUint64", "sync/atomic.StoreUint32", "sync/atomic.StoreUint64"], apart := false }
def ReportKnownSaid : Prop := reportKnownRow.holds Try.pinned (OpenSpec.ofChange reportKnownSpec)

/-- ITS FALSE NEIGHBOUR: 'it returns false'. Refute it at one input. -/
def reportKnownWrong : ChangeSpec := { name := "reportKnown", fn := fun _ => fun
  | [] => { results := [.lit (.bool false)], args := [] }
  | _ => none }
def ReportKnownWrongFalsely : Prop := reportKnownRow.holds Try.pinned (OpenSpec.ofChange reportKnownWrong)

/- THE SECOND FORM. 'bulk': how many values and letters a reading holds, each counted each time it is reached (what is shared counts as often as it is met; a slice's spare places count too). A statement '..UptoSaid' is the law's where the arguments, and the package variables that the reading takes, are together of bulk at most 1048576: NARROWER than '..Said'. Prove '..Said' where nothing that the law and all that it calls make is longer than what came in: it says more and counts as full. Else prove '..UptoSaid'. A law counts once. -/
mutual
def uptoBulk {H : Type} : DataW H → Nat
  | .lit (.string bytes) => bytes.length + 1
  | .lit _ => 1
  | .nil => 1
  | .ptr d => uptoBulk d + 1
  | .slice elems spare => uptoBulkAll elems + uptoBulkAll spare + 1
  | .agg parts => uptoBulkAll parts + 1
  | .iface _ d => uptoBulk d + 1
  | .map entries => uptoBulkEntries entries + 1
  | .held _ => 1
def uptoBulkAll {H : Type} : List (DataW H) → Nat
  | [] => 0
  | d :: r => uptoBulk d + uptoBulkAll r
def uptoBulkEntries {H : Type} : List (Lit × DataW H) → Nat
  | [] => 0
  | x :: r => uptoBulkEntry x + uptoBulkEntries r
def uptoBulkEntry {H : Type} : Lit × DataW H → Nat
  | (.string bytes, d) => bytes.length + uptoBulk d + 1
  | (_, d) => uptoBulk d + 1
 end
def uptoSmall : (H : Type) → List (DataW H) → Bool := fun _ ds => decide (uptoBulkAll ds ≤ 1048576)
def OpenSpec.upto (s : _root_.Go.ChangeSpec) : _root_.Go.OpenSpec := { _root_.Go.OpenSpec.ofChange s with cond := some uptoSmall }

/-- 'easellaw24.ReportClocks', WHERE WHAT IT READS IS OF BULK AT MOST 1048576: true; the input reads as it did. -/
def reportClocksUptoRow : OpenClaim := { program := "ytogilblilljpmaa", sum := "d95578aedacfb44eb83e7446bae22062043b678fed63e5be3154667675c3c3db", func := "easel/easellaw24.ReportClocks", spec := "reportClocks", apart := false, narrowed := true }
def ReportClocksUptoSaid : Prop := reportClocksUptoRow.holds Try.pinned (OpenSpec.upto reportClocksSpec)

/-- 'easellaw24.ReportHears', WHERE WHAT IT READS IS OF BULK AT MOST 1048576: true; the input reads as it did. -/
def reportHearsUptoRow : OpenClaim := { program := "ytogilblilljpmaa", sum := "d95578aedacfb44eb83e7446bae22062043b678fed63e5be3154667675c3c3db", func := "easel/easellaw24.ReportHears", spec := "reportHears", apart := false, narrowed := true }
def ReportHearsUptoSaid : Prop := reportHearsUptoRow.holds Try.pinned (OpenSpec.upto reportHearsSpec)

/-- 'easellaw24.ReportNone', WHERE WHAT IT READS IS OF BULK AT MOST 1048576: true; the input reads as it did. -/
def reportNoneUptoRow : OpenClaim := { program := "ytogilblilljpmaa", sum := "d95578aedacfb44eb83e7446bae22062043b678fed63e5be3154667675c3c3db", func := "easel/easellaw24.ReportNone", spec := "reportNone", inPlace := ["sync/atomic.AddUint64", "sync/atomic.StoreUint32", "sync/atomic.StoreUint64", "sync/atomic.LoadUint64", "sync/atomic.LoadUint32"], apart := false, narrowed := true }
def ReportNoneUptoSaid : Prop := reportNoneUptoRow.holds Try.pinned (OpenSpec.upto reportNoneSpec)

/-- 'easellaw24.ReportCounts', WHERE WHAT IT READS IS OF BULK AT MOST 1048576: true; the input reads as it did. -/
def reportCountsUptoRow : OpenClaim := { program := "ytogilblilljpmaa", sum := "d95578aedacfb44eb83e7446bae22062043b678fed63e5be3154667675c3c3db", func := "easel/easellaw24.ReportCounts", spec := "reportCounts", inPlace := ["sync/atomic.LoadUint64", "sync/atomic.LoadUint32", "sync/atomic.AddUint64", "sync/atomic.StoreUint32", "sync/atomic.StoreUint64"], apart := false, narrowed := true }
def ReportCountsUptoSaid : Prop := reportCountsUptoRow.holds Try.pinned (OpenSpec.upto reportCountsSpec)

/-- 'easellaw24.ReportKnown', WHERE WHAT IT READS IS OF BULK AT MOST 1048576: true; the input reads as it did. -/
def reportKnownUptoRow : OpenClaim := { program := "ytogilblilljpmaa", sum := "d95578aedacfb44eb83e7446bae22062043b678fed63e5be3154667675c3c3db", func := "easel/easellaw24.ReportKnown", spec := "reportKnown", inPlace := ["sync/atomic.LoadUint64", "sync/atomic.LoadUint32", "sync/atomic.AddUint64", "sync/atomic.StoreUint32", "sync/atomic.StoreUint64"], apart := false, narrowed := true }
def ReportKnownUptoSaid : Prop := reportKnownUptoRow.holds Try.pinned (OpenSpec.upto reportKnownSpec)

end Rows
end Go.Proofs.Ytogilblilljpmaa
