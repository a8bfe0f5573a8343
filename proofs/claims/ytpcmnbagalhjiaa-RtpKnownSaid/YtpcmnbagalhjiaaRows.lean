/-
  No cell of these rows narrows 'for every input' (looked for: loops, veiled, ifaces, maps, wideKeys, modest, calm, conditions, laid).
  DERIVED. THE GIVEN ROWS OF THIS SEAT. 4 by the template 'for every input the law returns true; each argument reads behind the call as it read before'; 0 by the template 'total and deterministic' (their statements: YtpcmnbagalhjiaaTotals.lean).
  GIVEN WITH THE SEED: the statements are not yours to turn. If you find one false, say at which input.
  Laid BY PROGRAM, IN A SANDBOX (cutbox-rows.mjs): the forced cells as the released guide's own fill.sh prints them over the translation 33c39f8aacdb98ff… (all of the seat's roots in one cut). By AI agents, Wed Nov 11 2026. No macro, syntax, notation, axiom, sorry.
-/
import Derived.Test.YtpcmnbagalhjiaaChecked
import GoSem.Claim
import GoSem.ClaimJoined
import GoSem.ClaimMapViews
import Derived.JoinedTies
import Derived.KernelRfl
namespace Go.Proofs.Ytpcmnbagalhjiaa
/- THE CELL 'sum', in the pinned program and in every row, IS THE sha256 OF THE DUMP (.gsa) THAT YtpcmnbagalhjiaaProg.lean LOADS. Nothing in Lean hashes anything: it is a label: what it is worth is what the hold of that sum in a sandbox is worth. -/
noncomputable def Try.pinned : Pinned := { name := "ytpcmnbagalhjiaa", sum := "33c39f8aacdb98ff7f1c86c9ed41232ed3eaac82da683cae7e2af3c12d452641", checked := Try.checked }
namespace Rows
def none {H : Type} : Left H := { results := [], args := [] }

/-- 'easellaw02.RtpReads': WHATEVER THE INPUT: true; the input reads as it did. -/
def rtpReadsSpec : ChangeSpec := { name := "rtpReads", fn := fun _ => fun
  | [d] => { results := [.lit (.bool true)], args := [d] }
  | _ => none }
def rtpReadsRow : OpenClaim := { program := "ytpcmnbagalhjiaa", sum := "33c39f8aacdb98ff7f1c86c9ed41232ed3eaac82da683cae7e2af3c12d452641", func := "easel/easellaw02.RtpReads", spec := "rtpReads", unfollowed := true, recurses := true, apart := false }
def RtpReadsSaid : Prop := rtpReadsRow.holds Try.pinned (OpenSpec.ofChange rtpReadsSpec)

/-- ITS FALSE NEIGHBOUR: 'it returns false'. Refute it at one input. -/
def rtpReadsWrong : ChangeSpec := { name := "rtpReads", fn := fun _ => fun
  | [d] => { results := [.lit (.bool false)], args := [d] }
  | _ => none }
def RtpReadsWrongFalsely : Prop := rtpReadsRow.holds Try.pinned (OpenSpec.ofChange rtpReadsWrong)

/-- 'easellaw02.RtpPuts': WHATEVER THE INPUT: true; the input reads as it did. -/
def rtpPutsSpec : ChangeSpec := { name := "rtpPuts", fn := fun _ => fun
  | [d1, d2] => { results := [.lit (.bool true)], args := [d1, d2] }
  | _ => none }
def rtpPutsRow : OpenClaim := { program := "ytpcmnbagalhjiaa", sum := "33c39f8aacdb98ff7f1c86c9ed41232ed3eaac82da683cae7e2af3c12d452641", func := "easel/easellaw02.RtpPuts", spec := "rtpPuts", unfollowed := true, recurses := true, apart := false }
def RtpPutsSaid : Prop := rtpPutsRow.holds Try.pinned (OpenSpec.ofChange rtpPutsSpec)

/-- ITS FALSE NEIGHBOUR: 'it returns false'. Refute it at one input. -/
def rtpPutsWrong : ChangeSpec := { name := "rtpPuts", fn := fun _ => fun
  | [d1, d2] => { results := [.lit (.bool false)], args := [d1, d2] }
  | _ => none }
def RtpPutsWrongFalsely : Prop := rtpPutsRow.holds Try.pinned (OpenSpec.ofChange rtpPutsWrong)

/-- 'easellaw02.RtpBack': WHATEVER THE INPUT: true; the input reads as it did. -/
def rtpBackSpec : ChangeSpec := { name := "rtpBack", fn := fun _ => fun
  | [d1, d2] => { results := [.lit (.bool true)], args := [d1, d2] }
  | _ => none }
def rtpBackRow : OpenClaim := { program := "ytpcmnbagalhjiaa", sum := "33c39f8aacdb98ff7f1c86c9ed41232ed3eaac82da683cae7e2af3c12d452641", func := "easel/easellaw02.RtpBack", spec := "rtpBack", unfollowed := true, recurses := true, apart := false }
def RtpBackSaid : Prop := rtpBackRow.holds Try.pinned (OpenSpec.ofChange rtpBackSpec)

/-- ITS FALSE NEIGHBOUR: 'it returns false'. Refute it at one input. -/
def rtpBackWrong : ChangeSpec := { name := "rtpBack", fn := fun _ => fun
  | [d1, d2] => { results := [.lit (.bool false)], args := [d1, d2] }
  | _ => none }
def RtpBackWrongFalsely : Prop := rtpBackRow.holds Try.pinned (OpenSpec.ofChange rtpBackWrong)

/-- 'easellaw02.RtpKnown': WHATEVER THE INPUT: true; the input reads as it did. -/
def rtpKnownSpec : ChangeSpec := { name := "rtpKnown", fn := fun _ => fun
  | [] => { results := [.lit (.bool true)], args := [] }
  | _ => none }
def rtpKnownRow : OpenClaim := { program := "ytpcmnbagalhjiaa", sum := "33c39f8aacdb98ff7f1c86c9ed41232ed3eaac82da683cae7e2af3c12d452641", func := "easel/easellaw02.RtpKnown", spec := "rtpKnown", unfollowed := true, recurses := true, apart := false }
def RtpKnownSaid : Prop := rtpKnownRow.holds Try.pinned (OpenSpec.ofChange rtpKnownSpec)

/-- ITS FALSE NEIGHBOUR: 'it returns false'. Refute it at one input. -/
def rtpKnownWrong : ChangeSpec := { name := "rtpKnown", fn := fun _ => fun
  | [] => { results := [.lit (.bool false)], args := [] }
  | _ => none }
def RtpKnownWrongFalsely : Prop := rtpKnownRow.holds Try.pinned (OpenSpec.ofChange rtpKnownWrong)

/- THE SECOND FORM. 'bulk': how many values and letters a reading holds, each counted each time it is reached (what is shared counts as often as it is met; a slice's spare places count too). A statement '..UptoSaid' is the law's where the arguments, and the package variables that the reading takes, are together of bulk at most 1048576: NARROWER than '..Said'. Prove '..Said' where nothing that the law and all that it calls make is longer than what came in: it says more and counts as full. Else prove '..UptoSaid'. A law counts once. -/
mutual
def uptoBulk {H : Type} : DataW H → Nat
  | .lit (.string bytes) => bytes.length + 1
  | .lit _ => 1
  | .nil => 1
  | .ptr d => uptoBulk d + 1
  | .slice elems spare => uptoBulkAll elems + uptoBulkAll spare + 1
  | .agg parts => uptoBulkAll parts + 1
  | .iface _ d => uptoBulk d + 1
  | .map entries => uptoBulkEntries entries + 1
  | .held _ => 1
def uptoBulkAll {H : Type} : List (DataW H) → Nat
  | [] => 0
  | d :: r => uptoBulk d + uptoBulkAll r
def uptoBulkEntries {H : Type} : List (Lit × DataW H) → Nat
  | [] => 0
  | x :: r => uptoBulkEntry x + uptoBulkEntries r
def uptoBulkEntry {H : Type} : Lit × DataW H → Nat
  | (.string bytes, d) => bytes.length + uptoBulk d + 1
  | (_, d) => uptoBulk d + 1
 end
def uptoSmall : (H : Type) → List (DataW H) → Bool := fun _ ds => decide (uptoBulkAll ds ≤ 1048576)
def OpenSpec.upto (s : _root_.Go.ChangeSpec) : _root_.Go.OpenSpec := { _root_.Go.OpenSpec.ofChange s with cond := some uptoSmall }

/-- 'easellaw02.RtpReads', WHERE WHAT IT READS IS OF BULK AT MOST 1048576: true; the input reads as it did. -/
def rtpReadsUptoRow : OpenClaim := { program := "ytpcmnbagalhjiaa", sum := "33c39f8aacdb98ff7f1c86c9ed41232ed3eaac82da683cae7e2af3c12d452641", func := "easel/easellaw02.RtpReads", spec := "rtpReads", unfollowed := true, recurses := true, apart := false, narrowed := true }
def RtpReadsUptoSaid : Prop := rtpReadsUptoRow.holds Try.pinned (OpenSpec.upto rtpReadsSpec)

/-- 'easellaw02.RtpPuts', WHERE WHAT IT READS IS OF BULK AT MOST 1048576: true; the input reads as it did. -/
def rtpPutsUptoRow : OpenClaim := { program := "ytpcmnbagalhjiaa", sum := "33c39f8aacdb98ff7f1c86c9ed41232ed3eaac82da683cae7e2af3c12d452641", func := "easel/easellaw02.RtpPuts", spec := "rtpPuts", unfollowed := true, recurses := true, apart := false, narrowed := true }
def RtpPutsUptoSaid : Prop := rtpPutsUptoRow.holds Try.pinned (OpenSpec.upto rtpPutsSpec)

/-- 'easellaw02.RtpBack', WHERE WHAT IT READS IS OF BULK AT MOST 1048576: true; the input reads as it did. -/
def rtpBackUptoRow : OpenClaim := { program := "ytpcmnbagalhjiaa", sum := "33c39f8aacdb98ff7f1c86c9ed41232ed3eaac82da683cae7e2af3c12d452641", func := "easel/easellaw02.RtpBack", spec := "rtpBack", unfollowed := true, recurses := true, apart := false, narrowed := true }
def RtpBackUptoSaid : Prop := rtpBackUptoRow.holds Try.pinned (OpenSpec.upto rtpBackSpec)

/-- 'easellaw02.RtpKnown', WHERE WHAT IT READS IS OF BULK AT MOST 1048576: true; the input reads as it did. -/
def rtpKnownUptoRow : OpenClaim := { program := "ytpcmnbagalhjiaa", sum := "33c39f8aacdb98ff7f1c86c9ed41232ed3eaac82da683cae7e2af3c12d452641", func := "easel/easellaw02.RtpKnown", spec := "rtpKnown", unfollowed := true, recurses := true, apart := false, narrowed := true }
def RtpKnownUptoSaid : Prop := rtpKnownUptoRow.holds Try.pinned (OpenSpec.upto rtpKnownSpec)

end Rows
end Go.Proofs.Ytpcmnbagalhjiaa
