/-
  No cell of these rows narrows 'for every input' (looked for: loops, veiled, ifaces, maps, wideKeys, modest, calm, conditions, laid).
  DERIVED. THE GIVEN ROWS OF THIS SEAT. 5 by the template 'for every input the law returns true; each argument reads behind the call as it read before'; 0 by the template 'total and deterministic' (their statements: YtohlaabclifbfaaTotals.lean).
  GIVEN WITH THE SEED: the statements are not yours to turn. If you find one false, say at which input.
  Laid BY PROGRAM, IN A SANDBOX (cutbox-rows.mjs): the forced cells as the released guide's own fill.sh prints them over the translation 8c134d01bb559399… (all of the seat's roots in one cut). By AI agents, Wed Nov 11 2026. No macro, syntax, notation, axiom, sorry.
-/
import Derived.Test.YtohlaabclifbfaaChecked
import GoSem.Claim
import GoSem.ClaimJoined
import GoSem.ClaimMapViews
import Derived.JoinedTies
import Derived.KernelRfl
namespace Go.Proofs.Ytohlaabclifbfaa
/- THE CELL 'sum', in the pinned program and in every row, IS THE sha256 OF THE DUMP (.gsa) THAT YtohlaabclifbfaaProg.lean LOADS. Nothing in Lean hashes anything: it is a label: what it is worth is what the hold of that sum in a sandbox is worth. -/
noncomputable def Try.pinned : Pinned := { name := "ytohlaabclifbfaa", sum := "8c134d01bb55939980b0c6543efd7149c2533d4e0bd35df55d35c90a8f857ad3", checked := Try.checked }
namespace Rows
def none {H : Type} : Left H := { results := [], args := [] }

/-- 'easellaw06.RtcpSplits': WHATEVER THE INPUT: true; the input reads as it did. -/
def rtcpSplitsSpec : ChangeSpec := { name := "rtcpSplits", fn := fun _ => fun
  | [d] => { results := [.lit (.bool true)], args := [d] }
  | _ => none }
def rtcpSplitsRow : OpenClaim := { program := "ytohlaabclifbfaa", sum := "8c134d01bb55939980b0c6543efd7149c2533d4e0bd35df55d35c90a8f857ad3", func := "easel/easellaw06.RtcpSplits", spec := "rtcpSplits", apart := false }
def RtcpSplitsSaid : Prop := rtcpSplitsRow.holds Try.pinned (OpenSpec.ofChange rtcpSplitsSpec)

/-- ITS FALSE NEIGHBOUR: 'it returns false'. Refute it at one input. -/
def rtcpSplitsWrong : ChangeSpec := { name := "rtcpSplits", fn := fun _ => fun
  | [d] => { results := [.lit (.bool false)], args := [d] }
  | _ => none }
def RtcpSplitsWrongFalsely : Prop := rtcpSplitsRow.holds Try.pinned (OpenSpec.ofChange rtcpSplitsWrong)

/-- 'easellaw06.RtcpBack': WHATEVER THE INPUT: true; the input reads as it did. -/
def rtcpBackSpec : ChangeSpec := { name := "rtcpBack", fn := fun _ => fun
  | [d1, d2] => { results := [.lit (.bool true)], args := [d1, d2] }
  | _ => none }
def rtcpBackRow : OpenClaim := { program := "ytohlaabclifbfaa", sum := "8c134d01bb55939980b0c6543efd7149c2533d4e0bd35df55d35c90a8f857ad3", func := "easel/easellaw06.RtcpBack", spec := "rtcpBack", apart := false }
def RtcpBackSaid : Prop := rtcpBackRow.holds Try.pinned (OpenSpec.ofChange rtcpBackSpec)

/-- ITS FALSE NEIGHBOUR: 'it returns false'. Refute it at one input. -/
def rtcpBackWrong : ChangeSpec := { name := "rtcpBack", fn := fun _ => fun
  | [d1, d2] => { results := [.lit (.bool false)], args := [d1, d2] }
  | _ => none }
def RtcpBackWrongFalsely : Prop := rtcpBackRow.holds Try.pinned (OpenSpec.ofChange rtcpBackWrong)

/-- 'easellaw06.RtcpJoins': WHATEVER THE INPUT: true; the input reads as it did. -/
def rtcpJoinsSpec : ChangeSpec := { name := "rtcpJoins", fn := fun _ => fun
  | [d] => { results := [.lit (.bool true)], args := [d] }
  | _ => none }
def rtcpJoinsRow : OpenClaim := { program := "ytohlaabclifbfaa", sum := "8c134d01bb55939980b0c6543efd7149c2533d4e0bd35df55d35c90a8f857ad3", func := "easel/easellaw06.RtcpJoins", spec := "rtcpJoins", apart := false }
def RtcpJoinsSaid : Prop := rtcpJoinsRow.holds Try.pinned (OpenSpec.ofChange rtcpJoinsSpec)

/-- ITS FALSE NEIGHBOUR: 'it returns false'. Refute it at one input. -/
def rtcpJoinsWrong : ChangeSpec := { name := "rtcpJoins", fn := fun _ => fun
  | [d] => { results := [.lit (.bool false)], args := [d] }
  | _ => none }
def RtcpJoinsWrongFalsely : Prop := rtcpJoinsRow.holds Try.pinned (OpenSpec.ofChange rtcpJoinsWrong)

/-- 'easellaw06.RtcpPuts': WHATEVER THE INPUT: true; the input reads as it did. -/
def rtcpPutsSpec : ChangeSpec := { name := "rtcpPuts", fn := fun _ => fun
  | [d1, d2, d3] => { results := [.lit (.bool true)], args := [d1, d2, d3] }
  | _ => none }
def rtcpPutsRow : OpenClaim := { program := "ytohlaabclifbfaa", sum := "8c134d01bb55939980b0c6543efd7149c2533d4e0bd35df55d35c90a8f857ad3", func := "easel/easellaw06.RtcpPuts", spec := "rtcpPuts", apart := false }
def RtcpPutsSaid : Prop := rtcpPutsRow.holds Try.pinned (OpenSpec.ofChange rtcpPutsSpec)

/-- ITS FALSE NEIGHBOUR: 'it returns false'. Refute it at one input. -/
def rtcpPutsWrong : ChangeSpec := { name := "rtcpPuts", fn := fun _ => fun
  | [d1, d2, d3] => { results := [.lit (.bool false)], args := [d1, d2, d3] }
  | _ => none }
def RtcpPutsWrongFalsely : Prop := rtcpPutsRow.holds Try.pinned (OpenSpec.ofChange rtcpPutsWrong)

/-- 'easellaw06.RtcpKnown': WHATEVER THE INPUT: true; the input reads as it did. -/
def rtcpKnownSpec : ChangeSpec := { name := "rtcpKnown", fn := fun _ => fun
  | [] => { results := [.lit (.bool true)], args := [] }
  | _ => none }
def rtcpKnownRow : OpenClaim := { program := "ytohlaabclifbfaa", sum := "8c134d01bb55939980b0c6543efd7149c2533d4e0bd35df55d35c90a8f857ad3", func := "easel/easellaw06.RtcpKnown", spec := "rtcpKnown", apart := false }
def RtcpKnownSaid : Prop := rtcpKnownRow.holds Try.pinned (OpenSpec.ofChange rtcpKnownSpec)

/-- ITS FALSE NEIGHBOUR: 'it returns false'. Refute it at one input. -/
def rtcpKnownWrong : ChangeSpec := { name := "rtcpKnown", fn := fun _ => fun
  | [] => { results := [.lit (.bool false)], args := [] }
  | _ => none }
def RtcpKnownWrongFalsely : Prop := rtcpKnownRow.holds Try.pinned (OpenSpec.ofChange rtcpKnownWrong)

/- THE SECOND FORM. 'bulk': how many values and letters a reading holds, each counted each time it is reached (what is shared counts as often as it is met; a slice's spare places count too). A statement '..UptoSaid' is the law's where the arguments, and the package variables that the reading takes, are together of bulk at most 1048576: NARROWER than '..Said'. Prove '..Said' where nothing that the law and all that it calls make is longer than what came in: it says more and counts as full. Else prove '..UptoSaid'. A law counts once. -/
mutual
def uptoBulk {H : Type} : DataW H → Nat
  | .lit (.string bytes) => bytes.length + 1
  | .lit _ => 1
  | .nil => 1
  | .ptr d => uptoBulk d + 1
  | .slice elems spare => uptoBulkAll elems + uptoBulkAll spare + 1
  | .agg parts => uptoBulkAll parts + 1
  | .iface _ d => uptoBulk d + 1
  | .map entries => uptoBulkEntries entries + 1
  | .held _ => 1
def uptoBulkAll {H : Type} : List (DataW H) → Nat
  | [] => 0
  | d :: r => uptoBulk d + uptoBulkAll r
def uptoBulkEntries {H : Type} : List (Lit × DataW H) → Nat
  | [] => 0
  | x :: r => uptoBulkEntry x + uptoBulkEntries r
def uptoBulkEntry {H : Type} : Lit × DataW H → Nat
  | (.string bytes, d) => bytes.length + uptoBulk d + 1
  | (_, d) => uptoBulk d + 1
 end
def uptoSmall : (H : Type) → List (DataW H) → Bool := fun _ ds => decide (uptoBulkAll ds ≤ 1048576)
def OpenSpec.upto (s : _root_.Go.ChangeSpec) : _root_.Go.OpenSpec := { _root_.Go.OpenSpec.ofChange s with cond := some uptoSmall }

/-- 'easellaw06.RtcpSplits', WHERE WHAT IT READS IS OF BULK AT MOST 1048576: true; the input reads as it did. -/
def rtcpSplitsUptoRow : OpenClaim := { program := "ytohlaabclifbfaa", sum := "8c134d01bb55939980b0c6543efd7149c2533d4e0bd35df55d35c90a8f857ad3", func := "easel/easellaw06.RtcpSplits", spec := "rtcpSplits", apart := false, narrowed := true }
def RtcpSplitsUptoSaid : Prop := rtcpSplitsUptoRow.holds Try.pinned (OpenSpec.upto rtcpSplitsSpec)

/-- 'easellaw06.RtcpBack', WHERE WHAT IT READS IS OF BULK AT MOST 1048576: true; the input reads as it did. -/
def rtcpBackUptoRow : OpenClaim := { program := "ytohlaabclifbfaa", sum := "8c134d01bb55939980b0c6543efd7149c2533d4e0bd35df55d35c90a8f857ad3", func := "easel/easellaw06.RtcpBack", spec := "rtcpBack", apart := false, narrowed := true }
def RtcpBackUptoSaid : Prop := rtcpBackUptoRow.holds Try.pinned (OpenSpec.upto rtcpBackSpec)

/-- 'easellaw06.RtcpJoins', WHERE WHAT IT READS IS OF BULK AT MOST 1048576: true; the input reads as it did. -/
def rtcpJoinsUptoRow : OpenClaim := { program := "ytohlaabclifbfaa", sum := "8c134d01bb55939980b0c6543efd7149c2533d4e0bd35df55d35c90a8f857ad3", func := "easel/easellaw06.RtcpJoins", spec := "rtcpJoins", apart := false, narrowed := true }
def RtcpJoinsUptoSaid : Prop := rtcpJoinsUptoRow.holds Try.pinned (OpenSpec.upto rtcpJoinsSpec)

/-- 'easellaw06.RtcpPuts', WHERE WHAT IT READS IS OF BULK AT MOST 1048576: true; the input reads as it did. -/
def rtcpPutsUptoRow : OpenClaim := { program := "ytohlaabclifbfaa", sum := "8c134d01bb55939980b0c6543efd7149c2533d4e0bd35df55d35c90a8f857ad3", func := "easel/easellaw06.RtcpPuts", spec := "rtcpPuts", apart := false, narrowed := true }
def RtcpPutsUptoSaid : Prop := rtcpPutsUptoRow.holds Try.pinned (OpenSpec.upto rtcpPutsSpec)

/-- 'easellaw06.RtcpKnown', WHERE WHAT IT READS IS OF BULK AT MOST 1048576: true; the input reads as it did. -/
def rtcpKnownUptoRow : OpenClaim := { program := "ytohlaabclifbfaa", sum := "8c134d01bb55939980b0c6543efd7149c2533d4e0bd35df55d35c90a8f857ad3", func := "easel/easellaw06.RtcpKnown", spec := "rtcpKnown", apart := false, narrowed := true }
def RtcpKnownUptoSaid : Prop := rtcpKnownUptoRow.holds Try.pinned (OpenSpec.upto rtcpKnownSpec)

end Rows
end Go.Proofs.Ytohlaabclifbfaa
