/-
  The arguments of the rows: costs, plans.
-/
import Derived.Test.YtnghandgghfloaaB4
import Derived.Test.YtnghandgghfloaaX7
namespace Go.Proofs.Ytnghandgghfloaa.X
open Go Go.RowKit
set_option linter.unusedVariables false
set_option linter.unusedSimpArgs false
structure Costs where
  f0 : (SlV Int)
  f1 : (SlV Int)
def Costs.enc (x : Costs) : List Value := [.slice x.f0.p x.f0.n x.f0.c, .slice x.f1.p x.f1.n x.f1.c]
theorem Costs.len (x : Costs) : x.enc.length = 2 := rfl
def Costs.Good (W : World) (x : Costs) : Prop := (SlV.Good W (fun n : Int => [Value.int .u64 n]) (InK .u64)) x.f0 ∧ (SlV.Good W (fun n : Int => [Value.int .u64 n]) (InK .u64)) x.f1
theorem Costs.op {W : World} : Op' Try.prog W 25 Costs.enc (Costs.Good W) := fun encH fuel cs y h => by
  have hl := op_len (T := 25) (i := 0) h
  obtain ⟨a0, e0, g0⟩ := op_field' (T := 25) (i := 0) (op_slice (T := 23) (e := 22) op_int (fun _ => rfl) (by decide)) h
  obtain ⟨a1, e1, g1⟩ := op_field' (T := 25) (i := 1) (op_slice (T := 23) (e := 22) op_int (fun _ => rfl) (by decide)) h
  refine ⟨⟨a0, a1⟩, ?_, ⟨g0, g1⟩⟩
  obtain ⟨c0, c1, rfl⟩ := list2 hl
  have e0' : [c0] = (SlV.enc (α := Int)) a0 := e0
  have e1' : [c1] = (SlV.enc (α := Int)) a1 := e1
  show _ = (SlV.enc (α := Int)) a0 ++ (SlV.enc (α := Int)) a1
  rw [← e0', ← e1']; rfl
structure Plan where
  f0 : Int
  f1 : (SlV Bool)
def Plan.enc (x : Plan) : List Value := [.int .i64 x.f0, .slice x.f1.p x.f1.n x.f1.c]
theorem Plan.len (x : Plan) : x.enc.length = 2 := rfl
def Plan.Good (W : World) (x : Plan) : Prop := (InK .i64) x.f0 ∧ (SlV.Good W (fun b : Bool => [Value.bool b]) (fun _ => True)) x.f1
theorem Plan.op {W : World} : Op' Try.prog W 36 Plan.enc (Plan.Good W) := fun encH fuel cs y h => by
  have hl := op_len (T := 36) (i := 0) h
  obtain ⟨a0, e0, g0⟩ := op_field' (T := 36) (i := 0) op_int h
  obtain ⟨a1, e1, g1⟩ := op_field' (T := 36) (i := 1) (op_slice (T := 30) (e := 4) op_bool (fun _ => rfl) (by decide)) h
  refine ⟨⟨a0, a1⟩, ?_, ⟨g0, g1⟩⟩
  obtain ⟨c0, c1, rfl⟩ := list2 hl
  have e0' : [c0] = (fun n : Int => [Value.int .i64 n]) a0 := e0
  have e1' : [c1] = (SlV.enc (α := Bool)) a1 := e1
  show _ = (fun n : Int => [Value.int .i64 n]) a0 ++ (SlV.enc (α := Bool)) a1
  rw [← e0', ← e1']; rfl
theorem bools_flat : ∀ l : List Bool, l.flatMap (fun n => [Value.bool n]) = bls l
  | [] => rfl
  | a :: r => by rw [List.flatMap_cons, bools_flat r]; rfl
theorem Costs.rs {W : World} {x : Costs} (g : x.Good W) : Rs W [] x.f0.p (ints .u64 x.f0.l) ∧ Rs W [] x.f1.p (ints .u64 x.f1.l) := by
  refine ⟨?_, ?_⟩
  · have := g.1.rs
    rwa [show x.f0.l.flatMap (fun n : Int => [Value.int .u64 n]) = ints .u64 x.f0.l from ints_flat ..] at this
  · have := g.2.rs
    rwa [show x.f1.l.flatMap (fun n : Int => [Value.int .u64 n]) = ints .u64 x.f1.l from ints_flat ..] at this
theorem Plan.rs {W : World} {x : Plan} (g : x.Good W) : Rs W [] x.f1.p (bls x.f1.l) := by
  have := g.2.rs
  rwa [show x.f1.l.flatMap (fun n : Bool => [Value.bool n]) = bls x.f1.l from bools_flat _] at this
theorem allocates (W : World) (a0 : Int) (a1 : Costs) (g0 : InK .u64 a0) (g1 : a1.Good W) : XF Try.prog W 3 #[.int .u64 a0, .agg a1.enc.toArray] [] (fun v L' => v = .bool true) :=
  xf_BudgetAllocates a0 a1.f0.p a1.f1.p a1.f0.n a1.f0.c a1.f1.n a1.f1.c a1.f0.l a1.f1.l g1.1.len g1.2.len (Costs.rs g1).1 (Costs.rs g1).2 g1.1.all g1.2.all (Nat.le_trans g1.1.cap g1.1.max) (Nat.le_trans g1.2.cap g1.2.max) g0
end Go.Proofs.Ytnghandgghfloaa.X
