/-
  Members and calls that come in. No condition.
-/
import Derived.Test.YtginfcoaaioaeaaA5
namespace Go.Proofs.Ytginfcoaaioaeaa.X
open Go Go.RowKit
set_option linter.unusedVariables false
set_option linter.unusedSimpArgs false
def Mb.Good (W : World) (x : Mb) : Prop := (InK .i64) x.id ∧ (InK .u32) x.content ∧ (InK .u32) x.camera ∧ (fun _ => True) x.mod
theorem Mb.op {W : World} : Op' Try.prog W 31 Mb.enc (Mb.Good W) := fun encH fuel cs y h => by
  have hl := op_len (T := 31) (i := 0) h
  obtain ⟨a0, e0, g0⟩ := op_field' (T := 31) (i := 0) op_int h
  obtain ⟨a1, e1, g1⟩ := op_field' (T := 31) (i := 1) op_int h
  obtain ⟨a2, e2, g2⟩ := op_field' (T := 31) (i := 2) op_int h
  obtain ⟨a3, e3, g3⟩ := op_field' (T := 31) (i := 3) op_bool h
  refine ⟨⟨a0, a1, a2, a3⟩, ?_, ⟨g0, g1, g2, g3⟩⟩
  obtain ⟨c0, c1, c2, c3, rfl⟩ := list4 hl
  have e0' : [c0] = (fun n : Int => [Value.int .i64 n]) a0 := e0
  have e1' : [c1] = (fun n : Int => [Value.int .u32 n]) a1 := e1
  have e2' : [c2] = (fun n : Int => [Value.int .u32 n]) a2 := e2
  have e3' : [c3] = (fun b : Bool => [Value.bool b]) a3 := e3
  show _ = (fun n : Int => [Value.int .i64 n]) a0 ++ (fun n : Int => [Value.int .u32 n]) a1 ++ (fun n : Int => [Value.int .u32 n]) a2 ++ (fun b : Bool => [Value.bool b]) a3
  rw [← e0', ← e1', ← e2', ← e3']; rfl
structure Act where
  f0 : Bool
  f1 : Mb
def Act.enc (x : Act) : List Value := [.bool x.f0] ++ x.f1.enc
theorem Act.len (x : Act) : x.enc.length = 5 := rfl
def Act.Good (W : World) (x : Act) : Prop := (fun _ => True) x.f0 ∧ (Mb.Good W) x.f1
theorem Act.op {W : World} : Op' Try.prog W 33 Act.enc (Act.Good W) := fun encH fuel cs y h => by
  have hl := op_len (T := 33) (i := 0) h
  obtain ⟨a0, e0, g0⟩ := op_field' (T := 33) (i := 0) op_bool h
  obtain ⟨a1, e1, g1⟩ := op_field' (T := 33) (i := 1) Mb.op h
  refine ⟨⟨a0, a1⟩, ?_, ⟨g0, g1⟩⟩
  obtain ⟨c0, c1, c2, c3, c4, rfl⟩ := list5 hl
  have e0' : [c0] = (fun b : Bool => [Value.bool b]) a0 := e0
  have e1' : [c1, c2, c3, c4] = Mb.enc a1 := e1
  show _ = (fun b : Bool => [Value.bool b]) a0 ++ Mb.enc a1
  rw [← e0', ← e1']; rfl
end Go.Proofs.Ytginfcoaaioaeaa.X
