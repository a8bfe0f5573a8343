/-
  Words of my own for walks, second part: operations that only read. No condition; generic over the program.
-/
import Derived.Test.YtoolgphkfnkajaaX1
import Derived.Laws.Small
namespace Go.Proofs.Ytoolgphkfnkajaa.X
open Go Go.RowKit
set_option linter.unusedVariables false
set_option linter.unusedSimpArgs false

/-! ### what is known of types -/
class Sl (P : Program) (T : Nat) (e : outParam Nat) : Prop where h : P.underlying T = some (.slice e)
class Ik (P : Program) (T : Nat) (k : outParam IntKind) : Prop where h : P.underlying T = some (.int k)
class St (P : Program) (T : Nat) : Prop where h : P.underlying T = some .string
class Bo (P : Program) (T : Nat) : Prop where h : P.underlying T = some .bool
class Pn (P : Program) (T : Nat) (e : outParam Nat) : Prop where h : P.underlying T = some (.pointer e)
class Mp (P : Program) (T : Nat) (k e : outParam Nat) : Prop where h : P.underlying T = some (.map k e)
class Ar (P : Program) (T : Nat) (n e : outParam Nat) : Prop where h : P.underlying T = some (.array n e)
class Fd (P : Program) (S i : Nat) (off T : outParam Nat) : Prop where h : ∃ fs f, P.underlying S = some (.struct fs) ∧ fs[i]? = some f ∧ f.offset = off ∧ f.type = T
class Ts (P : Program) (T : Nat) (n : outParam Nat) : Prop where h : ∀ w, (sizeOf T).run P w = .ok n w
class Ta (P : Program) (T : Nat) (b : outParam Bool) : Prop where h : ∀ w, (isAgg T).run P w = .ok b w
class T0 (P : Program) (T : Nat) (z : outParam Value) : Prop where h : ∀ w, (zeroValue T).run P w = .ok z w
class Tb (P : Program) (T : Nat) (n : outParam Nat) : Prop where h : ∃ i, P.info? T = some i ∧ i.bytes = n
class Cf (P : Program) (f : Nat) : Prop where h : ∀ args w, (callFunc f args).run P w = .ok (.enter f args) w

def evs (E : List (Nat × Value)) : List Operand → Option (List Value)
  | [] => some []
  | x :: r => match ev E x with
    | some v => (match evs E r with
      | some vs => some (v :: vs)
      | none => none)
    | none => none
theorem Env.evals {n : Nat} {a : Act} {E : List (Nat × Value)} (h : Env n a E) : ∀ {l : List Operand} {vs : List Value}, evs E l = some vs → l.map a.eval = vs
  | [], vs, hv => by cases hv; rfl
  | x :: r, vs, hv => by
    unfold evs at hv
    split at hv
    · rename_i v hx
      split at hv
      · rename_i us hr
        cases hv
        rw [List.map_cons, h.eval hx, h.evals hr]
      · cases hv
    · cases hv

section
variable {P : Program} {W : World} {n : Nat} {L : List Blk} {E : List (Nat × Value)} {d : Option Nat} {t : TypeId} {pos : String} {after : Array Edge} {g : Option (Nat × Bool)}

theorem add_zero' (b i j : Nat) : (⟨b, i, none⟩ : Addr).add j = ⟨b, i + j, none⟩ := by
  unfold Addr.add
  split
  · rename_i h; subst h; rfl
  · rfl

theorem rd_move {x : Operand} {v : Value} (hx : ev E x = some v) : RD P W n L E ⟨d, .move x, t, pos, after, g⟩ v := .mk fun a w ha hw => by
  simp only [execOp, ha.eval hx]; rfl
theorem rd_assign {x : Operand} {v : Value} (hx : ev E x = some v) : RD P W n L E ⟨d, .assign x, t, pos, after, g⟩ v := .mk fun a w ha hw => by
  simp only [execOp, ha.eval hx]; rfl
theorem rd_pickt {c x y : Operand} {v : Value} (hc : ev E c = some (.bool true)) (hx : ev E x = some v) : RD P W n L E ⟨d, .pick c x y, t, pos, after, g⟩ v := .mk fun a w ha hw => by
  simp [execOp, ha.eval hx, ha.eval hc, asBool]
theorem rd_pickf {c x y : Operand} {v : Value} (hc : ev E c = some (.bool false)) (hx : ev E y = some v) : RD P W n L E ⟨d, .pick c x y, t, pos, after, g⟩ v := .mk fun a w ha hw => by
  simp [execOp, ha.eval hx, ha.eval hc, asBool]
theorem rd_nilCheck {x : Operand} {p : Addr} (hx : ev E x = some (.pointer (some p))) : RD P W n L E ⟨d, .nilCheck x, t, pos, after, g⟩ (.pointer (some p)) := .mk fun a w ha hw => by
  simp only [execOp, ha.eval hx]; rfl
theorem rd_load1 {T : Nat} {x : Operand} {b i : Nat} {v : Value} [hT : Ta P T false] (hx : ev E x = some (.pointer (some ⟨b, i, none⟩))) (hc : Cl W L b i v) :
    RD P W n L E ⟨d, .load T x, t, pos, after, g⟩ v := .mk fun a w ha hw => by
  have hA := hT.h w
  simp [execOp, ha.eval hx, Instr.loadAt, Instr.sureAddr, loadVar, hA, hc.get hw]
theorem rd_loadA {T : Nat} {x : Operand} {b i m : Nat} {vs : List Value} [hT : Ta P T true] [hS : Ts P T m] (hx : ev E x = some (.pointer (some ⟨b, i, none⟩))) (hm : vs.length = m)
    (hc : ∀ j v, vs[j]? = some v → Cl W L b (i + j) v) : RD P W n L E ⟨d, .load T x, t, pos, after, g⟩ (.agg vs.toArray) := .mk fun a w ha hw => by
  have hA := hT.h w
  have hB := hS.h w
  subst hm
  have hl := run_loadCells_list (P := P) w ⟨b, i, none⟩ vs (fun j v hj => by rw [add_zero']; exact (hc j v hj).get hw)
  simp [execOp, ha.eval hx, Instr.loadAt, Instr.sureAddr, loadVar, hA, hB, hl]
/-- A whole block of the own ones, or of the base world. -/
theorem rd_loadB {T : Nat} {x : Operand} {b m : Nat} {vs : List Value} {T' : TypeId} {fr : Nat × Nat} [hT : Ta P T true] [hS : Ts P T m] (hx : ev E x = some (.pointer (some ⟨b, 0, none⟩))) (hk : Kn W L b (.cells vs.toArray T' fr)) (hm : vs.length = m) :
    RD P W n L E ⟨d, .load T x, t, pos, after, g⟩ (.agg vs.toArray) :=
  rd_loadA (m := m) hx hm (fun j v hj => ⟨_, _, _, hk, by simpa using hj⟩)
theorem rd_fieldAddr {S f off T m b i : Nat} {x : Operand} [hF : Fd P S f off T] [hS : Ts P T (m + 1)] (hx : ev E x = some (.pointer (some ⟨b, i, none⟩))) :
    RD P W n L E ⟨d, .fieldAddr S x f, t, pos, after, g⟩ (.pointer (some ⟨b, i + off, none⟩)) := .mk fun a w ha hw => by
  obtain ⟨fs, fd, h1, h2, h3, h4⟩ := hF.h
  have hB := hS.h w
  subst h3; subst h4
  simp [execOp, ha.eval hx, Instr.fieldAt, run_underlying h1, h2, Instr.sureAddr, fieldPlace, hB, add_zero']
theorem rd_indexAddr {T e m b o len cap : Nat} {x y : Operand} {k : IntKind} {j : Int} [hT : Sl P T e] [hS : Ts P e m] (hx : ev E x = some (.slice (some ⟨b, o, none⟩) len cap)) (hy : ev E y = some (.int k j)) (h0 : 0 ≤ j) (h1 : j < len) :
    RD P W n L E ⟨d, .indexAddr T x y, t, pos, after, g⟩ (.pointer (some ⟨b, o + j.toNat * m, none⟩)) := .mk fun a w ha hw => by
  have hB := hS.h w
  simp [execOp, ha.eval hx, ha.eval hy, Instr.indexAt, run_underlying hT.h, asIntOf, hB, h0, h1, add_zero']
theorem rd_indexAddrArr {T e m b o len : Nat} {x y : Operand} {k : IntKind} {j : Int} [hT : Ar P T len e] [hS : Ts P e m] (hx : ev E x = some (.pointer (some ⟨b, o, none⟩))) (hy : ev E y = some (.int k j)) (h0 : 0 ≤ j) (h1 : j < len) :
    RD P W n L E ⟨d, .indexAddr T x y, t, pos, after, g⟩ (.pointer (some ⟨b, o + j.toNat * m, none⟩)) := .mk fun a w ha hw => by
  have hB := hS.h w
  simp [execOp, ha.eval hx, ha.eval hy, Instr.indexAt, run_underlying hT.h, asIntOf, Instr.sureAddr, hB, h0, h1, add_zero']
theorem rd_indexStr {T : Nat} {x y : Operand} {k : IntKind} {j : Int} {s : ByteArray} {u : UInt8} [hT : St P T] (hx : ev E x = some (.string s)) (hy : ev E y = some (.int k j)) (h0 : 0 ≤ j) (h1 : s[j.toNat]? = some u) :
    RD P W n L E ⟨d, .index T x y, t, pos, after, g⟩ (.int .u8 u.toNat) := .mk fun a w ha hw => by
  simp [execOp, ha.eval hx, ha.eval hy, Instr.index, run_underlying hT.h, asIntOf, h0, h1]
theorem rd_len {T : Nat} {x : Operand} {p : Option Addr} {len cap e : Nat} [hT : Sl P T e] (hx : ev E x = some (.slice p len cap)) :
    RD P W n L E ⟨d, .call ⟨.builtin .len, #[x], #[T]⟩, t, pos, after, g⟩ (.int .i64 len) := .mk fun a w ha hw => by
  simp [execOp, resolve, invoke, builtin, ha.eval hx, Builtin.len_, run_underlying hT.h, goInt]
theorem rd_lenStr {T : Nat} {x : Operand} {s : ByteArray} [hT : St P T] (hx : ev E x = some (.string s)) :
    RD P W n L E ⟨d, .call ⟨.builtin .len, #[x], #[T]⟩, t, pos, after, g⟩ (.int .i64 s.size) := .mk fun a w ha hw => by
  simp [execOp, resolve, invoke, builtin, ha.eval hx, Builtin.len_, run_underlying hT.h, goInt]
theorem rd_cap {T : Nat} {x : Operand} {p : Option Addr} {len cap e : Nat} [hT : Sl P T e] (hx : ev E x = some (.slice p len cap)) :
    RD P W n L E ⟨d, .call ⟨.builtin .cap, #[x], #[T]⟩, t, pos, after, g⟩ (.int .i64 cap) := .mk fun a w ha hw => by
  simp [execOp, resolve, invoke, builtin, ha.eval hx, Builtin.cap_, run_underlying hT.h, goInt]
theorem rd_max {T T' : Nat} {x y : Operand} {k : IntKind} {i j : Int} (hx : ev E x = some (.int k i)) (hy : ev E y = some (.int k j)) :
    RD P W n L E ⟨d, .call ⟨.builtin .max, #[x, y], #[T, T']⟩, t, pos, after, g⟩ (.int k (if j > i then j else i)) := .mk fun a w ha hw => by
  simp [execOp, resolve, invoke, builtin, ha.eval hx, ha.eval hy, Builtin.max_, Builtin.max2]
theorem rd_min {T T' : Nat} {x y : Operand} {k : IntKind} {i j : Int} (hx : ev E x = some (.int k i)) (hy : ev E y = some (.int k j)) :
    RD P W n L E ⟨d, .call ⟨.builtin .min, #[x, y], #[T, T']⟩, t, pos, after, g⟩ (.int k (if j < i then j else i)) := .mk fun a w ha hw => by
  simp [execOp, resolve, invoke, builtin, ha.eval hx, ha.eval hy, Builtin.min_, Builtin.min2]
theorem rd_add {T T' : Nat} {x y : Operand} {k : IntKind} {i j : Int} (hx : ev E x = some (.int k i)) (hy : ev E y = some (.int k j)) :
    RD P W n L E ⟨d, .binOp .add T x y T', t, pos, after, g⟩ (.int k (k.wrap (i + j))) := .mk fun a w ha hw => by
  simp [execOp, ha.eval hx, ha.eval hy, eqGuard, binOp, Op.intArith]
theorem rd_sub {T T' : Nat} {x y : Operand} {k : IntKind} {i j : Int} (hx : ev E x = some (.int k i)) (hy : ev E y = some (.int k j)) :
    RD P W n L E ⟨d, .binOp .sub T x y T', t, pos, after, g⟩ (.int k (k.wrap (i - j))) := .mk fun a w ha hw => by
  simp [execOp, ha.eval hx, ha.eval hy, eqGuard, binOp, Op.intArith]
theorem rd_mul {T T' : Nat} {x y : Operand} {k : IntKind} {i j : Int} (hx : ev E x = some (.int k i)) (hy : ev E y = some (.int k j)) :
    RD P W n L E ⟨d, .binOp .mul T x y T', t, pos, after, g⟩ (.int k (k.wrap (i * j))) := .mk fun a w ha hw => by
  simp [execOp, ha.eval hx, ha.eval hy, eqGuard, binOp, Op.intArith]
theorem rd_cast {o : Oper} {v v' : Value} (h : RD P W n L E o v) (e : v = v') : RD P W n L E o v' := e ▸ h
theorem rd_quo {T T' : Nat} {x y : Operand} {k : IntKind} {i j : Int} (hx : ev E x = some (.int k i)) (hy : ev E y = some (.int k j)) (hj : j ≠ 0) :
    RD P W n L E ⟨d, .binOp .quo T x y T', t, pos, after, g⟩ (.int k (k.wrap (i.tdiv j))) := .mk fun a w ha hw => by
  simp [execOp, ha.eval hx, ha.eval hy, eqGuard, binOp, Op.intDiv, hj]
theorem rd_rem {T T' : Nat} {x y : Operand} {k : IntKind} {i j : Int} (hx : ev E x = some (.int k i)) (hy : ev E y = some (.int k j)) (hj : j ≠ 0) :
    RD P W n L E ⟨d, .binOp .rem T x y T', t, pos, after, g⟩ (.int k (i.tmod j)) := .mk fun a w ha hw => by
  simp [execOp, ha.eval hx, ha.eval hy, eqGuard, binOp, Op.intDiv, hj]
theorem rd_and {T T' : Nat} {x y : Operand} {k : IntKind} {i j : Int} (hx : ev E x = some (.int k i)) (hy : ev E y = some (.int k j)) :
    RD P W n L E ⟨d, .binOp .and T x y T', t, pos, after, g⟩ (.int k (bits .and k i j)) := .mk fun a w ha hw => by
  simp [execOp, ha.eval hx, ha.eval hy, eqGuard, binOp, intBits_and]
theorem rd_or {T T' : Nat} {x y : Operand} {k : IntKind} {i j : Int} (hx : ev E x = some (.int k i)) (hy : ev E y = some (.int k j)) :
    RD P W n L E ⟨d, .binOp .or T x y T', t, pos, after, g⟩ (.int k (bits .or k i j)) := .mk fun a w ha hw => by
  simp [execOp, ha.eval hx, ha.eval hy, eqGuard, binOp, intBits_or]
theorem rd_shl {T T' : Nat} {x y : Operand} {k k' : IntKind} {i j : Int} (hx : ev E x = some (.int k i)) (hy : ev E y = some (.int k' j)) (h0 : 0 ≤ j) (h1 : j ≤ k.bits) :
    RD P W n L E ⟨d, .binOp .shl T x y T', t, pos, after, g⟩ (.int k (k.wrap (i * 2 ^ j.toNat))) := .mk fun a w ha hw => by
  simp [execOp, ha.eval hx, ha.eval hy, eqGuard, binOp, shift_shl _ _ _ _ h0 h1]
theorem rd_shr {T T' : Nat} {x y : Operand} {k k' : IntKind} {i j : Int} (hx : ev E x = some (.int k i)) (hy : ev E y = some (.int k' j)) (h0 : 0 ≤ j) (h1 : j ≤ k.bits) :
    RD P W n L E ⟨d, .binOp .shr T x y T', t, pos, after, g⟩ (.int k (i / 2 ^ j.toNat)) := .mk fun a w ha hw => by
  simp [execOp, ha.eval hx, ha.eval hy, eqGuard, binOp, shift_shr _ _ _ _ h0 h1]
theorem rd_lss {T T' : Nat} {x y : Operand} {k : IntKind} {i j : Int} (hx : ev E x = some (.int k i)) (hy : ev E y = some (.int k j)) :
    RD P W n L E ⟨d, .binOp .lss T x y T', t, pos, after, g⟩ (.bool (decide (i < j))) := .mk fun a w ha hw => by
  simp [execOp, ha.eval hx, ha.eval hy, eqGuard, binOp, Op.intCmp]
theorem rd_leq {T T' : Nat} {x y : Operand} {k : IntKind} {i j : Int} (hx : ev E x = some (.int k i)) (hy : ev E y = some (.int k j)) :
    RD P W n L E ⟨d, .binOp .leq T x y T', t, pos, after, g⟩ (.bool (decide (i ≤ j))) := .mk fun a w ha hw => by
  simp [execOp, ha.eval hx, ha.eval hy, eqGuard, binOp, Op.intCmp]
theorem rd_gtr {T T' : Nat} {x y : Operand} {k : IntKind} {i j : Int} (hx : ev E x = some (.int k i)) (hy : ev E y = some (.int k j)) :
    RD P W n L E ⟨d, .binOp .gtr T x y T', t, pos, after, g⟩ (.bool (decide (j < i))) := .mk fun a w ha hw => by
  simp [execOp, ha.eval hx, ha.eval hy, eqGuard, binOp, Op.intCmp]
theorem rd_geq {T T' : Nat} {x y : Operand} {k : IntKind} {i j : Int} (hx : ev E x = some (.int k i)) (hy : ev E y = some (.int k j)) :
    RD P W n L E ⟨d, .binOp .geq T x y T', t, pos, after, g⟩ (.bool (decide (j ≤ i))) := .mk fun a w ha hw => by
  simp [execOp, ha.eval hx, ha.eval hy, eqGuard, binOp, Op.intCmp]
theorem rd_eql {T T' : Nat} {x y : Operand} {k : IntKind} {i j : Int} (hx : ev E x = some (.int k i)) (hy : ev E y = some (.int k j)) :
    RD P W n L E ⟨d, .binOp .eql T x y T', t, pos, after, g⟩ (.bool (decide (i = j))) := .mk fun a w ha hw => by
  have hd : (i == j) = decide (i = j) := by by_cases h : i = j <;> simp [h]
  simp [execOp, ha.eval hx, ha.eval hy, eqGuard, binOp, Op.intCmp, hd]
theorem rd_neq {T T' : Nat} {x y : Operand} {k : IntKind} {i j : Int} (hx : ev E x = some (.int k i)) (hy : ev E y = some (.int k j)) :
    RD P W n L E ⟨d, .binOp .neq T x y T', t, pos, after, g⟩ (.bool (!decide (i = j))) := .mk fun a w ha hw => by
  have hd : (i == j) = decide (i = j) := by by_cases h : i = j <;> simp [h]
  simp [execOp, ha.eval hx, ha.eval hy, eqGuard, binOp, Op.intCmp, bne, hd]
theorem rd_eqb {T T' : Nat} {x y : Operand} {i j : Bool} [hT : Bo P T] (hx : ev E x = some (.bool i)) (hy : ev E y = some (.bool j)) :
    RD P W n L E ⟨d, .binOp .eql T x y T', t, pos, after, g⟩ (.bool (i == j)) := .mk fun a w ha hw => by
  have hb : (Op.equalIn Op.maxDepth T (.bool i) (.bool j)).run P w = .ok (i == j) w := run_equal_bool w T i j hT.h
  simp [execOp, ha.eval hx, ha.eval hy, eqGuard, binOp, Op.equal, hb]
theorem rd_neb {T T' : Nat} {x y : Operand} {i j : Bool} [hT : Bo P T] (hx : ev E x = some (.bool i)) (hy : ev E y = some (.bool j)) :
    RD P W n L E ⟨d, .binOp .neq T x y T', t, pos, after, g⟩ (.bool (!(i == j))) := .mk fun a w ha hw => by
  have hb : (Op.equalIn Op.maxDepth T (.bool i) (.bool j)).run P w = .ok (i == j) w := run_equal_bool w T i j hT.h
  simp [execOp, ha.eval hx, ha.eval hy, eqGuard, binOp, Op.equal, hb]
theorem run_eqnil' {T e : Nat} [hT : Pn P T e] (p : Option Addr) (w : World) (d : Nat) : (Op.equalIn (d + 1) T (.pointer p) (.pointer none)).run P w = .ok p.isNone w := by
  cases p <;> simp [Op.equalIn, run_underlying hT.h]
theorem run_eqnil {T e : Nat} [hT : Pn P T e] (p : Option Addr) (w : World) : (Op.equalIn Op.maxDepth T (.pointer p) (.pointer none)).run P w = .ok p.isNone w := run_eqnil' p w 9999
theorem rd_eqnil {T T' e : Nat} {x : Operand} {p : Option Addr} [hT : Pn P T e] (hx : ev E x = some (.pointer p)) :
    RD P W n L E ⟨d, .binOp .eql T x (.const (.pointer none)) T', t, pos, after, g⟩ (.bool p.isNone) := .mk fun a w ha hw => by
  have hc : a.eval (.const (.pointer none)) = .pointer none := rfl
  simp only [execOp, ha.eval hx, hc]
  simp [eqGuard, binOp, Op.equal, run_eqnil]
theorem rd_nenil {T T' e : Nat} {x : Operand} {p : Option Addr} [hT : Pn P T e] (hx : ev E x = some (.pointer p)) :
    RD P W n L E ⟨d, .binOp .neq T x (.const (.pointer none)) T', t, pos, after, g⟩ (.bool p.isSome) := .mk fun a w ha hw => by
  have hc : a.eval (.const (.pointer none)) = .pointer none := rfl
  simp only [execOp, ha.eval hx, hc]
  cases p <;> simp [eqGuard, binOp, Op.equal, run_eqnil]
/-- '==' and '!=' in general: what the two operations give. -/
theorem rd_bin {op : BinOp} {T T' : Nat} {x y : Operand} {u v r : Value} (hx : ev E x = some u) (hy : ev E y = some v) (hr : ∀ w, ((do eqGuard op T x y u v; binOp op T u v) : Sem Value).run P w = .ok r w) :
    RD P W n L E ⟨d, .binOp op T x y T', t, pos, after, g⟩ r := .mk fun a w ha hw => by
  have h1 := hr w
  simp only [execOp, ha.eval hx, ha.eval hy]
  rw [Sem.run_bind, h1]
  rfl
theorem rd_not {T : Nat} {x : Operand} {b : Bool} (hx : ev E x = some (.bool b)) :
    RD P W n L E ⟨d, .unOp .not T x, t, pos, after, g⟩ (.bool (!b)) := .mk fun a w ha hw => by
  simp [execOp, ha.eval hx, Op.unary]
theorem rd_conv {S T : Nat} {x : Operand} {k k' : IntKind} {i : Int} [hS : Ik P S k'] [hT : Ik P T k] (hx : ev E x = some (.int k' i)) :
    RD P W n L E ⟨d, .convert S T x, t, pos, after, g⟩ (.int k (k.wrap i)) := .mk fun a w ha hw => by
  simp [execOp, ha.eval hx, convert, run_underlying hS.h, run_underlying hT.h, Conv.intToInt]
theorem rd_extract {x : Operand} {i : Nat} {vs : Array Value} {v : Value} (hx : ev E x = some (.tuple vs)) (hv : vs[i]? = some v) :
    RD P W n L E ⟨d, .extract x i, t, pos, after, g⟩ v := .mk fun a w ha hw => by
  simp [execOp, ha.eval hx, Instr.extract, hv]
theorem rd_makeFunc {fn : Fn} {first captured : List Operand} {vs us : List Value} (h1 : evs E first = some vs) (h2 : evs E captured = some us) :
    RD P W n L E ⟨d, .makeFunc fn first.toArray captured.toArray, t, pos, after, g⟩ (.func fn vs.toArray us.toArray) := .mk fun a w ha hw => by
  simp [execOp, Instr.makeFunc, ha.evals h1, ha.evals h2]
theorem rd_field1 {S f off T : Nat} {x : Operand} {cs : Array Value} {v : Value} [hF : Fd P S f off T] [hA : Ta P T false] (hx : ev E x = some (.agg cs)) (hv : cs[off]? = some v) :
    RD P W n L E ⟨d, .field S x f, t, pos, after, g⟩ v := .mk fun a w ha hw => by
  obtain ⟨fs, fd, h1, h2, h3, h4⟩ := hF.h
  have hB := hA.h w
  subst h3; subst h4
  simp [execOp, ha.eval hx, Instr.field, run_underlying h1, h2, asAgg, part, hB, hv]
theorem rd_slice {T e m b o len cap : Nat} {x lo hi : Operand} {k k' : IntKind} {i j : Int} [hT : Sl P T e] [hS : Ts P e m] (hx : ev E x = some (.slice (some ⟨b, o, none⟩) len cap)) (hl : ev E lo = some (.int k i)) (hh : ev E hi = some (.int k' j))
    (h0 : 0 ≤ i) (h1 : i ≤ j) (h2 : j ≤ cap) (h3 : i < cap) :
    RD P W n L E ⟨d, .slice T x (some lo) (some hi) none, t, pos, after, g⟩ (.slice (some ⟨b, o + i.toNat * m, none⟩) (j.toNat - i.toNat) (cap - i.toNat)) := .mk fun a w ha hw => by
  have hB := hS.h w
  have e1 : 0 ≤ j := by omega
  have e2 : ¬ cap = i.toNat := by omega
  have e3 : i ≤ (j.toNat : Int) := by omega
  simp [execOp, ha.eval hx, ha.eval hl, ha.eval hh, Instr.sliceAt, Instr.slice, Instr.sliceBounds, Instr.sliceBound, run_underlying hT.h, asIntOf, hB, h0, h1, h2, e1, e2, e3, add_zero']
  intro hc; omega
theorem rd_sliceLo {T e m b o len cap : Nat} {x lo : Operand} {k : IntKind} {i : Int} [hT : Sl P T e] [hS : Ts P e m] (hx : ev E x = some (.slice (some ⟨b, o, none⟩) len cap)) (hl : ev E lo = some (.int k i))
    (h0 : 0 ≤ i) (h1 : i ≤ len) (h3 : i < cap) :
    RD P W n L E ⟨d, .slice T x (some lo) none none, t, pos, after, g⟩ (.slice (some ⟨b, o + i.toNat * m, none⟩) (len - i.toNat) (cap - i.toNat)) := .mk fun a w ha hw => by
  have hB := hS.h w
  have e2 : ¬ cap = i.toNat := by omega
  simp [execOp, ha.eval hx, ha.eval hl, Instr.sliceAt, Instr.slice, Instr.sliceBounds, Instr.sliceBound, run_underlying hT.h, asIntOf, hB, h0, h1, e2, add_zero']
theorem rd_sliceHi {T e b o len cap m : Nat} {x hi : Operand} {k : IntKind} {j : Int} [hT : Sl P T e] [hS : Ts P e m] (hx : ev E x = some (.slice (some ⟨b, o, none⟩) len cap)) (hh : ev E hi = some (.int k j))
    (h0 : 0 ≤ j) (h2 : j ≤ cap) :
    RD P W n L E ⟨d, .slice T x none (some hi) none, t, pos, after, g⟩ (.slice (some ⟨b, o, none⟩) j.toNat cap) := .mk fun a w ha hw => by
  have hB := hS.h w
  simp [execOp, ha.eval hx, ha.eval hh, Instr.sliceAt, Instr.slice, Instr.sliceBounds, Instr.sliceBound, run_underlying hT.h, asIntOf, hB, h0, h2, add_zero']
end
end Go.Proofs.Ytoolgphkfnkajaa.X
