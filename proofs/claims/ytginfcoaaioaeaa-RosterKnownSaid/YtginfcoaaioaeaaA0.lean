/-
  Members, and when two are the same. No condition.
-/
import Derived.Test.YtginfcoaaioaeaaX6
import Derived.Test.YtginfcoaaioaeaaX14
namespace Go.Proofs.Ytginfcoaaioaeaa.X
open Go Go.RowKit
set_option linter.unusedVariables false
set_option linter.unusedSimpArgs false
structure Mb where
  id : Int
  content : Int
  camera : Int
  mod : Bool
deriving DecidableEq
def Mb.enc (m : Mb) : List Value := [.int .i64 m.id, .int .u32 m.content, .int .u32 m.camera, .bool m.mod]
theorem Mb.len (m : Mb) : m.enc.length = 4 := rfl
theorem run_eqi {P : Program} {w : World} {d T : Nat} {k : IntKind} {a b : Int} [h : Ik P T k] : (Op.equalIn (d + 1) T (.int k a) (.int k b)).run P w = .ok (a == b) w := run_equalIn_int w d T k k a b h.h
theorem run_eqb {P : Program} {w : World} {d T : Nat} {a b : Bool} [h : Bo P T] : (Op.equalIn (d + 1) T (.bool a) (.bool b)).run P w = .ok (a == b) w := run_equalIn_bool w d T a b h.h
theorem eqMb31 (a b : Mb) (w : World) : (Op.equalIn 10000 31 (.agg a.enc.toArray) (.agg b.enc.toArray)).run Try.prog w = .ok (decide (a = b)) w := by
  rw [run_equalIn_agg (P := Try.prog) w 9999 31 _ _ (by kernel_rfl) (by kernel_rfl)]
  have hd : decide (a = b) = (a.id == b.id && (a.content == b.content && (a.camera == b.camera && a.mod == b.mod))) := by
    obtain ⟨a0, a1, a2, a3⟩ := a
    obtain ⟨b0, b1, b2, b3⟩ := b
    rw [Bool.eq_iff_iff]
    simp
  rw [hd]
  unfold Program.fieldsOf
  rw [Try.underlying31]
  have t3 : ∀ w, (isAgg 3).run Try.prog w = .ok false w := (inferInstance : Ta Try.prog 3 false).h
  have t29 : ∀ w, (isAgg 29).run Try.prog w = .ok false w := (inferInstance : Ta Try.prog 29 false).h
  have t4 : ∀ w, (isAgg 4).run Try.prog w = .ok false w := (inferInstance : Ta Try.prog 4 false).h
  have e3 : ∀ (a b : Int) w, (Op.equalIn 9999 3 (.int .i64 a) (.int .i64 b)).run Try.prog w = .ok (a == b) w := fun a b w => run_eqi (d := 9998)
  have e29 : ∀ (a b : Int) w, (Op.equalIn 9999 29 (.int .u32 a) (.int .u32 b)).run Try.prog w = .ok (a == b) w := fun a b w => run_eqi (d := 9998)
  have e4 : ∀ (a b : Bool) w, (Op.equalIn 9999 4 (.bool a) (.bool b)).run Try.prog w = .ok (a == b) w := fun a b w => run_eqb (d := 9998)
  simp only [Op.eqFields, part, t3, t29, t4, e3, e29, e4, Mb.enc, Sem.run_bind, Result.andThen_ok, Sem.run_ite, Sem.run_pure]
  simp
  simp only [e3, e29, e4, Result.andThen_ok]
  cases h1 : a.id == b.id <;> cases h2 : a.content == b.content <;> cases h3 : a.camera == b.camera <;> cases h4 : a.mod == b.mod <;> simp_all [e3, e29, e4]
theorem eqMb49 (a b : Mb) (w : World) : (Op.equalIn 10000 49 (.agg a.enc.toArray) (.agg b.enc.toArray)).run Try.prog w = .ok (decide (a = b)) w := by
  rw [run_equalIn_agg (P := Try.prog) w 9999 49 _ _ (by kernel_rfl) (by kernel_rfl)]
  have hd : decide (a = b) = (a.id == b.id && (a.content == b.content && (a.camera == b.camera && a.mod == b.mod))) := by
    obtain ⟨a0, a1, a2, a3⟩ := a
    obtain ⟨b0, b1, b2, b3⟩ := b
    rw [Bool.eq_iff_iff]
    simp
  rw [hd]
  unfold Program.fieldsOf
  rw [Try.underlying49]
  have t3 : ∀ w, (isAgg 3).run Try.prog w = .ok false w := (inferInstance : Ta Try.prog 3 false).h
  have t29 : ∀ w, (isAgg 29).run Try.prog w = .ok false w := (inferInstance : Ta Try.prog 29 false).h
  have t4 : ∀ w, (isAgg 4).run Try.prog w = .ok false w := (inferInstance : Ta Try.prog 4 false).h
  have e3 : ∀ (a b : Int) w, (Op.equalIn 9999 3 (.int .i64 a) (.int .i64 b)).run Try.prog w = .ok (a == b) w := fun a b w => run_eqi (d := 9998)
  have e29 : ∀ (a b : Int) w, (Op.equalIn 9999 29 (.int .u32 a) (.int .u32 b)).run Try.prog w = .ok (a == b) w := fun a b w => run_eqi (d := 9998)
  have e4 : ∀ (a b : Bool) w, (Op.equalIn 9999 4 (.bool a) (.bool b)).run Try.prog w = .ok (a == b) w := fun a b w => run_eqb (d := 9998)
  simp only [Op.eqFields, part, t3, t29, t4, e3, e29, e4, Mb.enc, Sem.run_bind, Result.andThen_ok, Sem.run_ite, Sem.run_pure]
  simp
  simp only [e3, e29, e4, Result.andThen_ok]
  cases h1 : a.id == b.id <;> cases h2 : a.content == b.content <;> cases h3 : a.camera == b.camera <;> cases h4 : a.mod == b.mod <;> simp_all [e3, e29, e4]
section
variable {W : World} {n : Nat} {L : List Blk} {E : List (Nat × Value)} {d : Option Nat} {t : TypeId} {pos : String} {after : Array Edge} {g : Option (Nat × Bool)}
theorem rd_eqMb31 {T' : Nat} {x y : Operand} {a b : Mb} (hx : ev E x = some (.agg a.enc.toArray)) (hy : ev E y = some (.agg b.enc.toArray)) : RD Try.prog W n L E ⟨d, .binOp .eql 31 x y T', t, pos, after, g⟩ (.bool (decide (a = b))) :=
  rd_bin hx hy fun w => by rw [Sem.run_bind, run_eqGuard_agg (P := Try.prog) w _ 31 _ _ _ _ (by kernel_rfl), Result.andThen_ok, run_eql_struct, eqMb31]; rfl
theorem rd_neMb31 {T' : Nat} {x y : Operand} {a b : Mb} (hx : ev E x = some (.agg a.enc.toArray)) (hy : ev E y = some (.agg b.enc.toArray)) : RD Try.prog W n L E ⟨d, .binOp .neq 31 x y T', t, pos, after, g⟩ (.bool (!decide (a = b))) :=
  rd_bin hx hy fun w => by rw [Sem.run_bind, run_eqGuard_agg (P := Try.prog) w _ 31 _ _ _ _ (by kernel_rfl), Result.andThen_ok, run_neq_struct, eqMb31]; rfl
theorem rd_neMb49 {T' : Nat} {x y : Operand} {a b : Mb} (hx : ev E x = some (.agg a.enc.toArray)) (hy : ev E y = some (.agg b.enc.toArray)) : RD Try.prog W n L E ⟨d, .binOp .neq 49 x y T', t, pos, after, g⟩ (.bool (!decide (a = b))) :=
  rd_bin hx hy fun w => by rw [Sem.run_bind, run_eqGuard_agg (P := Try.prog) w _ 49 _ _ _ _ (by kernel_rfl), Result.andThen_ok, run_neq_struct, eqMb49]; rfl
end
end Go.Proofs.Ytginfcoaaioaeaa.X
