/-
  No cell of these rows narrows 'for every input' (looked for: loops, veiled, ifaces, maps, wideKeys, modest, calm, conditions, laid).
  DERIVED. THE GIVEN ROWS OF THIS SEAT. 5 by the template 'for every input the law returns true; each argument reads behind the call as it read before'; 0 by the template 'total and deterministic' (their statements: YtpheiklhjelkcaaTotals.lean).
  GIVEN WITH THE SEED: the statements are not yours to turn. If you find one false, say at which input.
  Laid BY PROGRAM, IN A SANDBOX (cutbox-rows.mjs): the forced cells as the released guide's own fill.sh prints them over the translation 51a3e7932869549a… (all of the seat's roots in one cut). By AI agents, Wed Nov 11 2026. No macro, syntax, notation, axiom, sorry.
-/
import Derived.Test.YtpheiklhjelkcaaChecked
import GoSem.Claim
import GoSem.ClaimJoined
import GoSem.ClaimMapViews
import Derived.JoinedTies
import Derived.KernelRfl
namespace Go.Proofs.Ytpheiklhjelkcaa
/- THE CELL 'sum', in the pinned program and in every row, IS THE sha256 OF THE DUMP (.gsa) THAT YtpheiklhjelkcaaProg.lean LOADS. Nothing in Lean hashes anything: it is a label: what it is worth is what the hold of that sum in a sandbox is worth. -/
noncomputable def Try.pinned : Pinned := { name := "ytpheiklhjelkcaa", sum := "51a3e7932869549a2a110d27fecfbf5edfa478a0060bba8b416cb35eaf3b41c9", checked := Try.checked }
namespace Rows
def none {H : Type} : Left H := { results := [], args := [] }

/-- 'easellaw19.ClassesPlays': WHATEVER THE INPUT: true; the input reads as it did. -/
def classesPlaysSpec : ChangeSpec := { name := "classesPlays", fn := fun _ => fun
  | [d1, d2, d3, d4] => { results := [.lit (.bool true)], args := [d1, d2, d3, d4] }
  | _ => none }
def classesPlaysRow : OpenClaim := { program := "ytpheiklhjelkcaa", sum := "51a3e7932869549a2a110d27fecfbf5edfa478a0060bba8b416cb35eaf3b41c9", func := "easel/easellaw19.ClassesPlays", spec := "classesPlays", unfollowed := true, recurses := true, apart := false }
def ClassesPlaysSaid : Prop := classesPlaysRow.holds Try.pinned (OpenSpec.ofChange classesPlaysSpec)

/-- ITS FALSE NEIGHBOUR: 'it returns false'. Refute it at one input. -/
def classesPlaysWrong : ChangeSpec := { name := "classesPlays", fn := fun _ => fun
  | [d1, d2, d3, d4] => { results := [.lit (.bool false)], args := [d1, d2, d3, d4] }
  | _ => none }
def ClassesPlaysWrongFalsely : Prop := classesPlaysRow.holds Try.pinned (OpenSpec.ofChange classesPlaysWrong)

/-- 'easellaw19.ClassesKeep': WHATEVER THE INPUT: true; the input reads as it did. -/
def classesKeepSpec : ChangeSpec := { name := "classesKeep", fn := fun _ => fun
  | [d1, d2, d3] => { results := [.lit (.bool true)], args := [d1, d2, d3] }
  | _ => none }
def classesKeepRow : OpenClaim := { program := "ytpheiklhjelkcaa", sum := "51a3e7932869549a2a110d27fecfbf5edfa478a0060bba8b416cb35eaf3b41c9", func := "easel/easellaw19.ClassesKeep", spec := "classesKeep", unfollowed := true, recurses := true, apart := false }
def ClassesKeepSaid : Prop := classesKeepRow.holds Try.pinned (OpenSpec.ofChange classesKeepSpec)

/-- ITS FALSE NEIGHBOUR: 'it returns false'. Refute it at one input. -/
def classesKeepWrong : ChangeSpec := { name := "classesKeep", fn := fun _ => fun
  | [d1, d2, d3] => { results := [.lit (.bool false)], args := [d1, d2, d3] }
  | _ => none }
def ClassesKeepWrongFalsely : Prop := classesKeepRow.holds Try.pinned (OpenSpec.ofChange classesKeepWrong)

/-- 'easellaw19.ClassesAgain': WHATEVER THE INPUT: true; the input reads as it did. -/
def classesAgainSpec : ChangeSpec := { name := "classesAgain", fn := fun _ => fun
  | [d1, d2] => { results := [.lit (.bool true)], args := [d1, d2] }
  | _ => none }
def classesAgainRow : OpenClaim := { program := "ytpheiklhjelkcaa", sum := "51a3e7932869549a2a110d27fecfbf5edfa478a0060bba8b416cb35eaf3b41c9", func := "easel/easellaw19.ClassesAgain", spec := "classesAgain", unfollowed := true, recurses := true, apart := false }
def ClassesAgainSaid : Prop := classesAgainRow.holds Try.pinned (OpenSpec.ofChange classesAgainSpec)

/-- ITS FALSE NEIGHBOUR: 'it returns false'. Refute it at one input. -/
def classesAgainWrong : ChangeSpec := { name := "classesAgain", fn := fun _ => fun
  | [d1, d2] => { results := [.lit (.bool false)], args := [d1, d2] }
  | _ => none }
def ClassesAgainWrongFalsely : Prop := classesAgainRow.holds Try.pinned (OpenSpec.ofChange classesAgainWrong)

/-- 'easellaw19.ClassesNone': WHATEVER THE INPUT: true; the input reads as it did. -/
def classesNoneSpec : ChangeSpec := { name := "classesNone", fn := fun _ => fun
  | [d1, d2] => { results := [.lit (.bool true)], args := [d1, d2] }
  | _ => none }
def classesNoneRow : OpenClaim := { program := "ytpheiklhjelkcaa", sum := "51a3e7932869549a2a110d27fecfbf5edfa478a0060bba8b416cb35eaf3b41c9", func := "easel/easellaw19.ClassesNone", spec := "classesNone", unfollowed := true, recurses := true, apart := false }
def ClassesNoneSaid : Prop := classesNoneRow.holds Try.pinned (OpenSpec.ofChange classesNoneSpec)

/-- ITS FALSE NEIGHBOUR: 'it returns false'. Refute it at one input. -/
def classesNoneWrong : ChangeSpec := { name := "classesNone", fn := fun _ => fun
  | [d1, d2] => { results := [.lit (.bool false)], args := [d1, d2] }
  | _ => none }
def ClassesNoneWrongFalsely : Prop := classesNoneRow.holds Try.pinned (OpenSpec.ofChange classesNoneWrong)

/-- 'easellaw19.ClassesKnown': WHATEVER THE INPUT: true; the input reads as it did. -/
def classesKnownSpec : ChangeSpec := { name := "classesKnown", fn := fun _ => fun
  | [] => { results := [.lit (.bool true)], args := [] }
  | _ => none }
def classesKnownRow : OpenClaim := { program := "ytpheiklhjelkcaa", sum := "51a3e7932869549a2a110d27fecfbf5edfa478a0060bba8b416cb35eaf3b41c9", func := "easel/easellaw19.ClassesKnown", spec := "classesKnown", unfollowed := true, recurses := true, apart := false }
def ClassesKnownSaid : Prop := classesKnownRow.holds Try.pinned (OpenSpec.ofChange classesKnownSpec)

/-- ITS FALSE NEIGHBOUR: 'it returns false'. Refute it at one input. -/
def classesKnownWrong : ChangeSpec := { name := "classesKnown", fn := fun _ => fun
  | [] => { results := [.lit (.bool false)], args := [] }
  | _ => none }
def ClassesKnownWrongFalsely : Prop := classesKnownRow.holds Try.pinned (OpenSpec.ofChange classesKnownWrong)

/- THE SECOND FORM. 'bulk': how many values and letters a reading holds, each counted each time it is reached (what is shared counts as often as it is met; a slice's spare places count too). A statement '..UptoSaid' is the law's where the arguments, and the package variables that the reading takes, are together of bulk at most 1048576: NARROWER than '..Said'. Prove '..Said' where nothing that the law and all that it calls make is longer than what came in: it says more and counts as full. Else prove '..UptoSaid'. A law counts once. -/
mutual
def uptoBulk {H : Type} : DataW H → Nat
  | .lit (.string bytes) => bytes.length + 1
  | .lit _ => 1
  | .nil => 1
  | .ptr d => uptoBulk d + 1
  | .slice elems spare => uptoBulkAll elems + uptoBulkAll spare + 1
  | .agg parts => uptoBulkAll parts + 1
  | .iface _ d => uptoBulk d + 1
  | .map entries => uptoBulkEntries entries + 1
  | .held _ => 1
def uptoBulkAll {H : Type} : List (DataW H) → Nat
  | [] => 0
  | d :: r => uptoBulk d + uptoBulkAll r
def uptoBulkEntries {H : Type} : List (Lit × DataW H) → Nat
  | [] => 0
  | x :: r => uptoBulkEntry x + uptoBulkEntries r
def uptoBulkEntry {H : Type} : Lit × DataW H → Nat
  | (.string bytes, d) => bytes.length + uptoBulk d + 1
  | (_, d) => uptoBulk d + 1
 end
def uptoSmall : (H : Type) → List (DataW H) → Bool := fun _ ds => decide (uptoBulkAll ds ≤ 1048576)
def OpenSpec.upto (s : _root_.Go.ChangeSpec) : _root_.Go.OpenSpec := { _root_.Go.OpenSpec.ofChange s with cond := some uptoSmall }

/-- 'easellaw19.ClassesPlays', WHERE WHAT IT READS IS OF BULK AT MOST 1048576: true; the input reads as it did. -/
def classesPlaysUptoRow : OpenClaim := { program := "ytpheiklhjelkcaa", sum := "51a3e7932869549a2a110d27fecfbf5edfa478a0060bba8b416cb35eaf3b41c9", func := "easel/easellaw19.ClassesPlays", spec := "classesPlays", unfollowed := true, recurses := true, apart := false, narrowed := true }
def ClassesPlaysUptoSaid : Prop := classesPlaysUptoRow.holds Try.pinned (OpenSpec.upto classesPlaysSpec)

/-- 'easellaw19.ClassesKeep', WHERE WHAT IT READS IS OF BULK AT MOST 1048576: true; the input reads as it did. -/
def classesKeepUptoRow : OpenClaim := { program := "ytpheiklhjelkcaa", sum := "51a3e7932869549a2a110d27fecfbf5edfa478a0060bba8b416cb35eaf3b41c9", func := "easel/easellaw19.ClassesKeep", spec := "classesKeep", unfollowed := true, recurses := true, apart := false, narrowed := true }
def ClassesKeepUptoSaid : Prop := classesKeepUptoRow.holds Try.pinned (OpenSpec.upto classesKeepSpec)

/-- 'easellaw19.ClassesAgain', WHERE WHAT IT READS IS OF BULK AT MOST 1048576: true; the input reads as it did. -/
def classesAgainUptoRow : OpenClaim := { program := "ytpheiklhjelkcaa", sum := "51a3e7932869549a2a110d27fecfbf5edfa478a0060bba8b416cb35eaf3b41c9", func := "easel/easellaw19.ClassesAgain", spec := "classesAgain", unfollowed := true, recurses := true, apart := false, narrowed := true }
def ClassesAgainUptoSaid : Prop := classesAgainUptoRow.holds Try.pinned (OpenSpec.upto classesAgainSpec)

/-- 'easellaw19.ClassesNone', WHERE WHAT IT READS IS OF BULK AT MOST 1048576: true; the input reads as it did. -/
def classesNoneUptoRow : OpenClaim := { program := "ytpheiklhjelkcaa", sum := "51a3e7932869549a2a110d27fecfbf5edfa478a0060bba8b416cb35eaf3b41c9", func := "easel/easellaw19.ClassesNone", spec := "classesNone", unfollowed := true, recurses := true, apart := false, narrowed := true }
def ClassesNoneUptoSaid : Prop := classesNoneUptoRow.holds Try.pinned (OpenSpec.upto classesNoneSpec)

/-- 'easellaw19.ClassesKnown', WHERE WHAT IT READS IS OF BULK AT MOST 1048576: true; the input reads as it did. -/
def classesKnownUptoRow : OpenClaim := { program := "ytpheiklhjelkcaa", sum := "51a3e7932869549a2a110d27fecfbf5edfa478a0060bba8b416cb35eaf3b41c9", func := "easel/easellaw19.ClassesKnown", spec := "classesKnown", unfollowed := true, recurses := true, apart := false, narrowed := true }
def ClassesKnownUptoSaid : Prop := classesKnownUptoRow.holds Try.pinned (OpenSpec.upto classesKnownSpec)

end Rows
end Go.Proofs.Ytpheiklhjelkcaa
