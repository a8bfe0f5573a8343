/-
  No cell of these rows narrows 'for every input' (looked for: loops, veiled, ifaces, maps, wideKeys, modest, calm, conditions, laid).
  DERIVED. THE GIVEN ROWS OF THIS SEAT. 3 by the template 'for every input the law returns true; each argument reads behind the call as it read before'; 0 by the template 'total and deterministic' (their statements: YtoolgphkfnkajaaTotals.lean).
  GIVEN WITH THE SEED: the statements are not yours to turn. If you find one false, say at which input.
  Laid BY PROGRAM, IN A SANDBOX (cutbox-rows.mjs): the forced cells as the released guide's own fill.sh prints them over the translation 677242b30f1b9638… (all of the seat's roots in one cut). By AI agents, Wed Nov 11 2026. No macro, syntax, notation, axiom, sorry.
-/
import Derived.Test.YtoolgphkfnkajaaChecked
import GoSem.Claim
import GoSem.ClaimJoined
import GoSem.ClaimMapViews
import Derived.JoinedTies
import Derived.KernelRfl
namespace Go.Proofs.Ytoolgphkfnkajaa
/- THE CELL 'sum', in the pinned program and in every row, IS THE sha256 OF THE DUMP (.gsa) THAT YtoolgphkfnkajaaProg.lean LOADS. Nothing in Lean hashes anything: it is a label: what it is worth is what the hold of that sum in a sandbox is worth. -/
noncomputable def Try.pinned : Pinned := { name := "ytoolgphkfnkajaa", sum := "677242b30f1b9638b4e9a12dfee1b7228883c2b94c2232aa01b948cbb9a45c0e", checked := Try.checked }
namespace Rows
def none {H : Type} : Left H := { results := [], args := [] }

/-- 'easellaw23.KeyreqOnce': WHATEVER THE INPUT: true; the input reads as it did. -/
def keyreqOnceSpec : ChangeSpec := { name := "keyreqOnce", fn := fun _ => fun
  | [d1, d2] => { results := [.lit (.bool true)], args := [d1, d2] }
  | _ => none }
def keyreqOnceRow : OpenClaim := { program := "ytoolgphkfnkajaa", sum := "677242b30f1b9638b4e9a12dfee1b7228883c2b94c2232aa01b948cbb9a45c0e", func := "easel/easellaw23.KeyreqOnce", spec := "keyreqOnce", unfollowed := true, recurses := true, apart := false }
def KeyreqOnceSaid : Prop := keyreqOnceRow.holds Try.pinned (OpenSpec.ofChange keyreqOnceSpec)

/-- ITS FALSE NEIGHBOUR: 'it returns false'. Refute it at one input. -/
def keyreqOnceWrong : ChangeSpec := { name := "keyreqOnce", fn := fun _ => fun
  | [d1, d2] => { results := [.lit (.bool false)], args := [d1, d2] }
  | _ => none }
def KeyreqOnceWrongFalsely : Prop := keyreqOnceRow.holds Try.pinned (OpenSpec.ofChange keyreqOnceWrong)

/-- 'easellaw23.KeyreqNone': WHATEVER THE INPUT: true; the input reads as it did. -/
def keyreqNoneSpec : ChangeSpec := { name := "keyreqNone", fn := fun _ => fun
  | [d1, d2] => { results := [.lit (.bool true)], args := [d1, d2] }
  | _ => none }
def keyreqNoneRow : OpenClaim := { program := "ytoolgphkfnkajaa", sum := "677242b30f1b9638b4e9a12dfee1b7228883c2b94c2232aa01b948cbb9a45c0e", func := "easel/easellaw23.KeyreqNone", spec := "keyreqNone", unfollowed := true, recurses := true, apart := false }
def KeyreqNoneSaid : Prop := keyreqNoneRow.holds Try.pinned (OpenSpec.ofChange keyreqNoneSpec)

/-- ITS FALSE NEIGHBOUR: 'it returns false'. Refute it at one input. -/
def keyreqNoneWrong : ChangeSpec := { name := "keyreqNone", fn := fun _ => fun
  | [d1, d2] => { results := [.lit (.bool false)], args := [d1, d2] }
  | _ => none }
def KeyreqNoneWrongFalsely : Prop := keyreqNoneRow.holds Try.pinned (OpenSpec.ofChange keyreqNoneWrong)

/-- 'easellaw23.KeyreqKnown': WHATEVER THE INPUT: true; the input reads as it did. -/
def keyreqKnownSpec : ChangeSpec := { name := "keyreqKnown", fn := fun _ => fun
  | [] => { results := [.lit (.bool true)], args := [] }
  | _ => none }
def keyreqKnownRow : OpenClaim := { program := "ytoolgphkfnkajaa", sum := "677242b30f1b9638b4e9a12dfee1b7228883c2b94c2232aa01b948cbb9a45c0e", func := "easel/easellaw23.KeyreqKnown", spec := "keyreqKnown", unfollowed := true, recurses := true, apart := false }
def KeyreqKnownSaid : Prop := keyreqKnownRow.holds Try.pinned (OpenSpec.ofChange keyreqKnownSpec)

/-- ITS FALSE NEIGHBOUR: 'it returns false'. Refute it at one input. -/
def keyreqKnownWrong : ChangeSpec := { name := "keyreqKnown", fn := fun _ => fun
  | [] => { results := [.lit (.bool false)], args := [] }
  | _ => none }
def KeyreqKnownWrongFalsely : Prop := keyreqKnownRow.holds Try.pinned (OpenSpec.ofChange keyreqKnownWrong)

/- THE SECOND FORM. 'bulk': how many values and letters a reading holds, each counted each time it is reached (what is shared counts as often as it is met; a slice's spare places count too). A statement '..UptoSaid' is the law's where the arguments, and the package variables that the reading takes, are together of bulk at most 1048576: NARROWER than '..Said'. Prove '..Said' where nothing that the law and all that it calls make is longer than what came in: it says more and counts as full. Else prove '..UptoSaid'. A law counts once. -/
mutual
def uptoBulk {H : Type} : DataW H → Nat
  | .lit (.string bytes) => bytes.length + 1
  | .lit _ => 1
  | .nil => 1
  | .ptr d => uptoBulk d + 1
  | .slice elems spare => uptoBulkAll elems + uptoBulkAll spare + 1
  | .agg parts => uptoBulkAll parts + 1
  | .iface _ d => uptoBulk d + 1
  | .map entries => uptoBulkEntries entries + 1
  | .held _ => 1
def uptoBulkAll {H : Type} : List (DataW H) → Nat
  | [] => 0
  | d :: r => uptoBulk d + uptoBulkAll r
def uptoBulkEntries {H : Type} : List (Lit × DataW H) → Nat
  | [] => 0
  | x :: r => uptoBulkEntry x + uptoBulkEntries r
def uptoBulkEntry {H : Type} : Lit × DataW H → Nat
  | (.string bytes, d) => bytes.length + uptoBulk d + 1
  | (_, d) => uptoBulk d + 1
 end
def uptoSmall : (H : Type) → List (DataW H) → Bool := fun _ ds => decide (uptoBulkAll ds ≤ 1048576)
def OpenSpec.upto (s : _root_.Go.ChangeSpec) : _root_.Go.OpenSpec := { _root_.Go.OpenSpec.ofChange s with cond := some uptoSmall }

/-- 'easellaw23.KeyreqOnce', WHERE WHAT IT READS IS OF BULK AT MOST 1048576: true; the input reads as it did. -/
def keyreqOnceUptoRow : OpenClaim := { program := "ytoolgphkfnkajaa", sum := "677242b30f1b9638b4e9a12dfee1b7228883c2b94c2232aa01b948cbb9a45c0e", func := "easel/easellaw23.KeyreqOnce", spec := "keyreqOnce", unfollowed := true, recurses := true, apart := false, narrowed := true }
def KeyreqOnceUptoSaid : Prop := keyreqOnceUptoRow.holds Try.pinned (OpenSpec.upto keyreqOnceSpec)

/-- 'easellaw23.KeyreqNone', WHERE WHAT IT READS IS OF BULK AT MOST 1048576: true; the input reads as it did. -/
def keyreqNoneUptoRow : OpenClaim := { program := "ytoolgphkfnkajaa", sum := "677242b30f1b9638b4e9a12dfee1b7228883c2b94c2232aa01b948cbb9a45c0e", func := "easel/easellaw23.KeyreqNone", spec := "keyreqNone", unfollowed := true, recurses := true, apart := false, narrowed := true }
def KeyreqNoneUptoSaid : Prop := keyreqNoneUptoRow.holds Try.pinned (OpenSpec.upto keyreqNoneSpec)

/-- 'easellaw23.KeyreqKnown', WHERE WHAT IT READS IS OF BULK AT MOST 1048576: true; the input reads as it did. -/
def keyreqKnownUptoRow : OpenClaim := { program := "ytoolgphkfnkajaa", sum := "677242b30f1b9638b4e9a12dfee1b7228883c2b94c2232aa01b948cbb9a45c0e", func := "easel/easellaw23.KeyreqKnown", spec := "keyreqKnown", unfollowed := true, recurses := true, apart := false, narrowed := true }
def KeyreqKnownUptoSaid : Prop := keyreqKnownUptoRow.holds Try.pinned (OpenSpec.upto keyreqKnownSpec)

end Rows
end Go.Proofs.Ytoolgphkfnkajaa
