/-
  Words of my own for walks, twenty-seventh part: structs of numbers and truths, compared. No condition; generic over the program.
-/
import Derived.Test.YtoolgphkfnkajaaX26
namespace Go.Proofs.Ytoolgphkfnkajaa.X
open Go Go.RowKit
set_option linter.unusedVariables false
set_option linter.unusedSimpArgs false
section
variable {P : Program}
inductive FlatV (P : Program) (xs ys : Array Value) : List (String × Nat × Nat) → List Value → List Value → Prop
  | nil : FlatV P xs ys [] [] []
  | int {nm : String} {T off : Nat} {k : IntKind} {a b : Int} {ms : List (String × Nat × Nat)} {us vs : List Value} [hA : Ta P T false] [hI : Ik P T k] (hn : nm ≠ "_") (hx : xs[off]? = some (.int k a)) (hy : ys[off]? = some (.int k b)) (h : FlatV P xs ys ms us vs) : FlatV P xs ys ((nm, T, off) :: ms) (.int k a :: us) (.int k b :: vs)
  | bool {nm : String} {T off : Nat} {a b : Bool} {ms : List (String × Nat × Nat)} {us vs : List Value} [hA : Ta P T false] [hI : Bo P T] (hn : nm ≠ "_") (hx : xs[off]? = some (.bool a)) (hy : ys[off]? = some (.bool b)) (h : FlatV P xs ys ms us vs) : FlatV P xs ys ((nm, T, off) :: ms) (.bool a :: us) (.bool b :: vs)
theorem eqFields_flat (w : World) (d : Nat) {xs ys : Array Value} {ms : List (String × Nat × Nat)} {us vs : List Value} (h : FlatV P xs ys ms us vs) : ∀ fs : List Field, fs.map (fun f => (f.name, f.type, f.offset)) = ms →
    ∃ r, (Op.eqFields (d + 1) xs ys fs).run P w = .ok r w ∧ (r = true ↔ us = vs) := by
  induction h with
  | nil =>
    intro fs hf
    have : fs = [] := by simpa using hf
    subst this
    exact ⟨true, by simp [Op.eqFields], by simp⟩
  | @int nm T off k a b ms us vs hA hI hn hx hy h ih =>
    intro fs hf
    obtain ⟨f, fs, rfl, hf1, hf2⟩ := List.map_eq_cons_iff.1 hf
    simp only [Prod.mk.injEq] at hf1
    obtain ⟨rfl, rfl, rfl⟩ := hf1
    obtain ⟨r, hr, hi⟩ := ih fs hf2
    have hB := hA.h w
    have he := run_equalIn_int w d f.type k k a b hI.h
    by_cases hab : a = b
    · subst hab
      refine ⟨r, ?_, by simp [hi]⟩
      simp [Op.eqFields, hn, part, hB, hx, hy, he, hr]
    · refine ⟨false, ?_, by simp [hab]⟩
      simp [Op.eqFields, hn, part, hB, hx, hy, he, hab]
  | @bool nm T off a b ms us vs hA hI hn hx hy h ih =>
    intro fs hf
    obtain ⟨f, fs, rfl, hf1, hf2⟩ := List.map_eq_cons_iff.1 hf
    simp only [Prod.mk.injEq] at hf1
    obtain ⟨rfl, rfl, rfl⟩ := hf1
    obtain ⟨r, hr, hi⟩ := ih fs hf2
    have hB := hA.h w
    have he := run_equalIn_bool w d f.type a b hI.h
    by_cases hab : a = b
    · subst hab
      refine ⟨r, ?_, by simp [hi]⟩
      simp [Op.eqFields, hn, part, hB, hx, hy, he, hr]
    · refine ⟨false, ?_, by simp [hab]⟩
      have : (a == b) = false := by simpa using hab
      simp [Op.eqFields, hn, part, hB, hx, hy, he, this]
/-- What it takes to compare two such structs. -/
structure EqS (P : Program) (T : Nat) (us vs : List Value) (r : Bool) : Prop where
  h : ∀ w, (Op.equalIn 10000 T (.agg us.toArray) (.agg vs.toArray)).run P w = .ok r w
  g : P.eqGuardType P.depth T = false
theorem EqS.of {T : Nat} {us vs : List Value} {r : Bool} (ms : List (String × Nat × Nat)) (ht : P.underlying T = some (.struct (P.fieldsOf T))) (hp : P.stoodInHeld T = false) (hm : (P.fieldsOf T).toList.map (fun f => (f.name, f.type, f.offset)) = ms) (hg : P.eqGuardType P.depth T = false)
    (hf : FlatV P us.toArray vs.toArray ms us vs) (hr : r = true ↔ us = vs) : EqS P T us vs r := by
  refine ⟨fun w => ?_, hg⟩
  rw [run_equalIn_struct w 9999 T _ _ ht hp]
  obtain ⟨r', h1, h2⟩ := eqFields_flat w 9998 hf _ hm
  rw [h1]
  have : r' = r := by
    rw [Bool.eq_iff_iff, h2, hr]
  rw [this]
variable {W : World} {n : Nat} {L : List Blk} {E : List (Nat × Value)} {d : Option Nat} {t : TypeId} {pos : String} {after : Array Edge} {g : Option (Nat × Bool)}
theorem rd_eqS {T T' : Nat} {x y : Operand} {us vs : List Value} {r : Bool} (h : EqS P T us vs r) (hx : ev E x = some (.agg us.toArray)) (hy : ev E y = some (.agg vs.toArray)) :
    RD P W n L E ⟨d, .binOp .eql T x y T', t, pos, after, g⟩ (.bool r) := rd_bin hx hy fun w => by
  simp only [Sem.run_bind, run_eqGuard_agg w _ T x y _ _ h.g, Result.andThen_ok, run_eql_struct, h.h w]
theorem rd_neS {T T' : Nat} {x y : Operand} {us vs : List Value} {r : Bool} (h : EqS P T us vs r) (hx : ev E x = some (.agg us.toArray)) (hy : ev E y = some (.agg vs.toArray)) :
    RD P W n L E ⟨d, .binOp .neq T x y T', t, pos, after, g⟩ (.bool (!r)) := rd_bin hx hy fun w => by
  simp only [Sem.run_bind, run_eqGuard_agg w _ T x y _ _ h.g, Result.andThen_ok, run_neq_struct, h.h w]
end
end Go.Proofs.Ytoolgphkfnkajaa.X
