/-
  A call of the bucket's laws, as a structure of its own.
-/
import Derived.Test.YtjjbkpfknihkbaaB5
import Derived.Test.YtjjbkpfknihkbaaX7
namespace Go.Proofs.Ytjjbkpfknihkbaa.X
open Go Go.RowKit
set_option linter.unusedVariables false
structure Act where
  f0 : Int
  f1 : Int
  f2 : Int
def Act.enc (x : Act) : List Value := [.int .i64 x.f0, .int .u64 x.f1, .int .u64 x.f2]
theorem Act.len (x : Act) : x.enc.length = 3 := rfl
def Act.Good (W : World) (x : Act) : Prop := (InK .i64) x.f0 ∧ (InK .u64) x.f1 ∧ (InK .u64) x.f2
theorem Act.op {W : World} : Op' Try.prog W 31 Act.enc (Act.Good W) := fun encH fuel cs y h => by
  have hl := op_len (T := 31) (i := 0) h
  obtain ⟨a0, e0, g0⟩ := op_field' (T := 31) (i := 0) op_int h
  obtain ⟨a1, e1, g1⟩ := op_field' (T := 31) (i := 1) op_int h
  obtain ⟨a2, e2, g2⟩ := op_field' (T := 31) (i := 2) op_int h
  refine ⟨⟨a0, a1, a2⟩, ?_, ⟨g0, g1, g2⟩⟩
  obtain ⟨c0, c1, c2, rfl⟩ := list3 hl
  have e0' : [c0] = (fun n : Int => [Value.int .i64 n]) a0 := e0
  have e1' : [c1] = (fun n : Int => [Value.int .u64 n]) a1 := e1
  have e2' : [c2] = (fun n : Int => [Value.int .u64 n]) a2 := e2
  show _ = (fun n : Int => [Value.int .i64 n]) a0 ++ (fun n : Int => [Value.int .u64 n]) a1 ++ (fun n : Int => [Value.int .u64 n]) a2
  rw [← e0', ← e1', ← e2']; rfl
end Go.Proofs.Ytjjbkpfknihkbaa.X
