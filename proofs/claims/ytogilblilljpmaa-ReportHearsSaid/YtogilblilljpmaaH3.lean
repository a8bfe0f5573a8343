/-
  Equality of the blocks' struct.
-/
import Derived.Test.YtogilblilljpmaaH2
import Derived.Laws.StructEq
namespace Go.Proofs.Ytogilblilljpmaa.X
open Go Go.RowKit
set_option linter.unusedVariables false
theorem eqs35 (x y : B7) (w : World) : (Op.equalIn 10000 35 (.agg x.enc.toArray) (.agg y.enc.toArray)).run Try.prog w = .ok (decide (x = y)) w := by
  have hS : Try.prog.underlying 35 = some (.struct (Try.prog.fieldsOf 35)) := by kernel_rfl
  have hp : Try.prog.stoodInHeld 35 = false := by kernel_rfl
  rw [show (10000 : Nat) = 9999 + 1 from rfl, run_equalIn_agg w 9999 35 _ _ hS hp]
  simp only [Program.fieldsOf, Try.underlying35, B7.enc]
  go_simp
  by_cases h : x = y
  · subst h; simp
  · have hf : x.f0 = y.f0 → x.f1 = y.f1 → x.f2 = y.f2 → x.f3 = y.f3 → x.f4 = y.f4 → x.f5 = y.f5 → x.f6 ≠ y.f6 := fun h0 h1 h2 h3 h4 h5 h6 => h (by cases x; cases y; simp_all)
    rw [decide_eq_false h]
    (repeat' split) <;> first | rfl | (exfalso; apply hf <;> assumption)
theorem neS35 (x y : B7) (o1 o2 : Operand) (w : World) : ((do eqGuard .neq 35 o1 o2 (.agg x.enc.toArray) (.agg y.enc.toArray); binOp .neq 35 (.agg x.enc.toArray) (.agg y.enc.toArray)) : Sem Value).run Try.prog w = .ok (.bool (!decide (x = y))) w := by
  rw [Sem.run_bind, run_eqGuard_agg _ _ _ _ _ _ _ Try.eqGuardType35, Result.andThen_ok, run_neq_struct, eqs35]
  rfl
theorem rd_ne35 {W : World} {n : Nat} {L : List Blk} {E : List (Nat × Value)} {d : Option Nat} {t : TypeId} {pos : String} {after : Array Edge} {g : Option (Nat × Bool)} {T' : Nat} {o1 o2 : Operand} {x y : B7} (hx : ev E o1 = some (.agg x.enc.toArray)) (hy : ev E o2 = some (.agg y.enc.toArray)) :
    RD Try.prog W n L E ⟨d, .binOp .neq 35 o1 o2 T', t, pos, after, g⟩ (.bool (!decide (x = y))) := rd_bin hx hy (neS35 x y o1 o2)
end Go.Proofs.Ytogilblilljpmaa.X
