/-
  Texts of my own, put together: walks and laws for this seat. No condition.
-/
import Derived.OrdersHeld
import Derived.Deep.RegionHeld3
import Derived.Below
import Derived.WalkKit
import Derived.KernelRfl
import Derived.Laws.Cells
import Derived.Laws.Tables
import Derived.Laws.CopyRow
import Derived.Laws.Small
import Derived.Laws.AppendOwn
/-
  Words of my own for walks: a heap of known blocks over a base world, a frame of known slots, and a step rule for each kind of operation. No condition; generic over the program.
-/
namespace Go.Proofs.Ytoolgphkfnkajaa.X
open Go Go.RowKit
set_option linter.unusedVariables false

abbrev Blk := Nat × Obj

/-! ### the heap -/
structure Hp (W w : World) (L : List Blk) : Prop where
  os : w.os = W.os
  tape : w.tape = W.tape
  output : w.output = W.output
  base : ∀ (b : Nat) (o : Obj), W.heap[b]? = some o → w.heap[b]? = some o
  own : ∀ p, p ∈ L → w.heap[p.1]? = some p.2
  nod : (L.map Prod.fst).Nodup
  hi : ∀ p, p ∈ L → W.heap.size ≤ p.1

theorem Hp.start (W : World) : Hp W W [] := ⟨rfl, rfl, rfl, fun _ _ h => h, (fun _ h => by cases h), List.nodup_nil, (fun _ h => by cases h)⟩
theorem Hp.size {W w : World} {L : List Blk} (h : Hp W w L) : W.heap.size ≤ w.heap.size := by
  by_cases h0 : W.heap.size = 0
  · omega
  · have h1 : W.heap[W.heap.size - 1]? = some W.heap[W.heap.size - 1] := Array.getElem?_eq_getElem (by omega)
    have h2 := (Array.getElem?_eq_some_iff.1 (h.base _ _ h1)).1
    omega
theorem Hp.below {W w : World} {L : List Blk} (h : Hp W w L) : Below W.heap.size W w :=
  ⟨h.os, h.tape, h.output, h.size, fun k hk => by rw [Array.getElem?_eq_getElem hk, h.base k _ (Array.getElem?_eq_getElem hk)]⟩
theorem Hp.perm {W w : World} {L L' : List Blk} (h : Hp W w L) (p : L.Perm L') : Hp W w L' :=
  ⟨h.os, h.tape, h.output, h.base, fun q hq => h.own q (p.mem_iff.2 hq), (p.map Prod.fst).nodup_iff.1 h.nod, fun q hq => h.hi q (p.mem_iff.2 hq)⟩
theorem Hp.sub {W w : World} {L L' : List Blk} (h : Hp W w L) (p : L'.Sublist L) : Hp W w L' :=
  ⟨h.os, h.tape, h.output, h.base, fun q hq => h.own q (p.subset hq), h.nod.sublist (p.map Prod.fst), fun q hq => h.hi q (p.subset hq)⟩
theorem Hp.drew {W w : World} {L : List Blk} (h : Hp W w L) : Hp W { w with drawn := w.drawn + 1 } L :=
  ⟨h.os, h.tape, h.output, h.base, h.own, h.nod, h.hi⟩
theorem Hp.lt {W w : World} {L : List Blk} (h : Hp W w L) {p : Blk} (hp : p ∈ L) : p.1 < w.heap.size := (Array.getElem?_eq_some_iff.1 (h.own p hp)).1
theorem Hp.alloc {W w : World} {L : List Blk} (h : Hp W w L) (o : Obj) : Hp W { w with heap := w.heap.push o } ((w.heap.size, o) :: L) := by
  refine ⟨h.os, h.tape, h.output, fun b x hb => ?_, fun p hp => ?_, ?_, fun p hp => ?_⟩
  · have h1 := h.base b x hb
    have h2 := (Array.getElem?_eq_some_iff.1 h1).1
    show (w.heap.push o)[b]? = some x
    rw [Array.getElem?_push, if_neg (by omega)]; exact h1
  · show (w.heap.push o)[p.1]? = some p.2
    rcases List.mem_cons.1 hp with rfl | hp
    · simp
    · have h2 := h.lt hp
      rw [Array.getElem?_push, if_neg (by omega)]; exact h.own p hp
  · rw [List.map_cons, List.nodup_cons]
    refine ⟨fun hm => ?_, h.nod⟩
    obtain ⟨q, hq, he⟩ := List.mem_map.1 hm
    have := h.lt hq
    simp only at he
    omega
  · rcases List.mem_cons.1 hp with rfl | hp
    · exact h.size
    · exact h.hi p hp
/-- The first block's content is turned. -/
theorem Hp.turn {W w w' : World} {b : Nat} {o o' : Obj} {L : List Blk} (h : Hp W w ((b, o) :: L)) (hos : w'.os = w.os) (ht : w'.tape = w.tape) (hout : w'.output = w.output)
    (hb : w'.heap[b]? = some o') (hk : ∀ k, k ≠ b → w'.heap[k]? = w.heap[k]?) : Hp W w' ((b, o') :: L) := by
  have hn := h.nod
  rw [List.map_cons, List.nodup_cons] at hn
  refine ⟨hos.trans h.os, ht.trans h.tape, hout.trans h.output, fun k x hx => ?_, fun p hp => ?_, ?_, fun p hp => ?_⟩
  · have h1 := h.base k x hx
    have h2 := (Array.getElem?_eq_some_iff.1 hx).1
    have h3 := h.hi (b, o) (by simp)
    rw [hk k (by simp only at h3; omega)]; exact h1
  · rcases List.mem_cons.1 hp with rfl | hp
    · exact hb
    · have hne : p.1 ≠ b := fun e => hn.1 (List.mem_map.2 ⟨p, hp, e⟩)
      rw [hk _ hne]; exact h.own p (List.mem_cons_of_mem _ hp)
  · rw [List.map_cons, List.nodup_cons]; exact hn
  · rcases List.mem_cons.1 hp with rfl | hp
    · exact h.hi (b, o) (by simp)
    · exact h.hi p (List.mem_cons_of_mem _ hp)
theorem Hp.head {W w : World} {b : Nat} {o : Obj} {L : List Blk} (h : Hp W w ((b, o) :: L)) : w.heap[b]? = some o := h.own (b, o) (by simp)

/-- What a block is known to hold: of the base world, or one of the own ones. -/
def Kn (W : World) (L : List Blk) (b : Nat) (o : Obj) : Prop := W.heap[b]? = some o ∨ (b, o) ∈ L
theorem Kn.get {W w : World} {L : List Blk} {b : Nat} {o : Obj} (k : Kn W L b o) (h : Hp W w L) : w.heap[b]? = some o :=
  k.elim (h.base b o) (fun m => h.own (b, o) m)
theorem Kn.mono {W : World} {L L' : List Blk} {b : Nat} {o : Obj} (k : Kn W L b o) (h : ∀ p, p ∈ L → p ∈ L') : Kn W L' b o := k.imp id (h _)
theorem Kn.own {W : World} {L : List Blk} {b : Nat} {o : Obj} (h : (b, o) ∈ L) : Kn W L b o := .inr h

/-- What a cell is known to hold. -/
def Cl (W : World) (L : List Blk) (b i : Nat) (v : Value) : Prop := ∃ cs T fr, Kn W L b (.cells cs T fr) ∧ cs[i]? = some v
theorem Cl.get {W w : World} {L : List Blk} {b i : Nat} {v : Value} (c : Cl W L b i v) (h : Hp W w L) : w.cell? ⟨b, i, none⟩ = some v := by
  obtain ⟨cs, T, fr, k, hc⟩ := c
  simp [World.cell?, k.get h, hc]
theorem Cl.mono {W : World} {L L' : List Blk} {b i : Nat} {v : Value} (c : Cl W L b i v) (h : ∀ p, p ∈ L → p ∈ L') : Cl W L' b i v := by
  obtain ⟨cs, T, fr, k, hc⟩ := c
  exact ⟨cs, T, fr, k.mono h, hc⟩
theorem Cl.base {W : World} {L : List Blk} {b i : Nat} {v : Value} (h : W.cell? ⟨b, i, none⟩ = some v) : Cl W L b i v := by
  unfold World.cell? at h
  simp only at h
  split at h
  · rename_i c e f hb
    exact ⟨c, e, f, .inl hb, by simpa using h⟩
  · cases h
theorem Cl.own {W : World} {L : List Blk} {b i : Nat} {v : Value} {cs : Array Value} {T : TypeId} {fr : Nat × Nat} (h : (b, Obj.cells cs T fr) ∈ L) (hc : cs[i]? = some v) : Cl W L b i v := ⟨cs, T, fr, .inr h, hc⟩

/-! ### the frame -/
def lk : List (Nat × Value) → Nat → Option Value
  | [], _ => none
  | (j, v) :: r, i => match Nat.beq j i with
    | true => some v
    | false => lk r i
structure Env (n : Nat) (a : Act) (E : List (Nat × Value)) : Prop where
  defers : a.defers = []
  size : a.tmps.size = n
  val : ∀ i v, lk E i = some v → a.tmps[i]? = some v
def ev (E : List (Nat × Value)) : Operand → Option Value
  | .tmp t => lk E t
  | .const v => some v
  | .global g => some (.pointer (some ⟨g, 0, none⟩))
  | .func f => some (.func (.func f) #[] #[])
theorem Env.eval {n : Nat} {a : Act} {E : List (Nat × Value)} (h : Env n a E) {x : Operand} {v : Value} (hx : ev E x = some v) : a.eval x = v := by
  cases x with
  | tmp t => simp only [Act.eval, Array.getD_eq_getD_getElem?, h.val t v hx, Option.getD_some]
  | const u => exact Option.some.inj hx
  | global g => exact Option.some.inj hx
  | func f => exact Option.some.inj hx
theorem lk_cons (j : Nat) (v : Value) (E : List (Nat × Value)) (i : Nat) : lk ((j, v) :: E) i = if j = i then some v else lk E i := by
  show (match Nat.beq j i with | true => some v | false => lk E i) = _
  by_cases h : j = i
  · subst h; simp
  · have : Nat.beq j i = false := by
      cases hb : Nat.beq j i
      · rfl
      · exact absurd (Nat.eq_of_beq_eq_true hb) h
    simp [this, h]
theorem Env.put {n : Nat} {a : Act} {E : List (Nat × Value)} (h : Env n a E) (d : Nat) (v : Value) (hd : d < n) : Env n (a.put (some d) v) ((d, v) :: E) := by
  refine ⟨h.defers, by simp [Act.put, h.size], fun i u hu => ?_⟩
  rw [lk_cons] at hu
  show (a.tmps.setIfInBounds d v)[i]? = some u
  by_cases hi : d = i
  · subst hi
    rw [if_pos rfl] at hu
    have hs : d < a.tmps.size := by rw [h.size]; exact hd
    rw [Array.getElem?_setIfInBounds_self_of_lt hs]; exact hu
  · rw [if_neg hi] at hu
    rw [Array.getElem?_setIfInBounds_ne hi]; exact h.val i u hu
def pt (E : List (Nat × Value)) : Option Nat → Value → List (Nat × Value)
  | some d, v => (d, v) :: E
  | none, _ => E
def okd (n : Nat) : Option Nat → Bool
  | some d => Nat.blt d n
  | none => true
theorem Env.pt {n : Nat} {a : Act} {E : List (Nat × Value)} (h : Env n a E) (d : Option Nat) (v : Value) (hd : okd n d = true) : Env n (a.put d v) (pt E d v) := by
  cases d with
  | none => exact h
  | some d => exact h.put d v (by simpa [okd, Nat.blt_eq] using hd)
theorem Env.keep {n : Nat} {a : Act} {E E' : List (Nat × Value)} (h : Env n a E) (hk : ∀ i v, lk E' i = some v → lk E i = some v) : Env n a E' := ⟨h.defers, h.size, fun i v hv => h.val i v (hk i v hv)⟩
theorem keep_nil {E : List (Nat × Value)} : ∀ i v, lk [] i = some v → lk E i = some v := fun _ _ h => by cases h
theorem keep_cons {E E' : List (Nat × Value)} {j : Nat} {u : Value} (hj : lk E j = some u) (h : ∀ i v, lk E' i = some v → lk E i = some v) : ∀ i v, lk ((j, u) :: E') i = some v → lk E i = some v := fun i v hv => by
  rw [lk_cons] at hv
  split at hv
  · rename_i e; subst e; rw [hj]; exact hv
  · exact h i v hv

/-! ### one operation -/
structure RD (P : Program) (W : World) (n : Nat) (L : List Blk) (E : List (Nat × Value)) (o : Oper) (v : Value) : Prop where
  run : ∀ a w, Env n a E → Hp W w L → (execOp a.eval o).run P w = .ok (.value v) w
def effUp (P : Program) (K : Value → World → Prop) : Result Next → Prop
  | .ok (.value v) w' => K v w'
  | .ok .skip w' => K undef w'
  | .ok (.enter f args) w' => Calls P f args w' fun e w'' => ∃ v, e = .returned v ∧ K v w''
  | _ => False
theorem effUp.upon {P : Program} {K : Value → World → Prop} {o : Oper} {a : Act} {next : Act → World → Prop} {Q : Exit → Act → World → Prop} {r : Result Next}
    (h : effUp P K r) (hk : ∀ v w, K v w → next (a.put o.dst v) w) : o.upon P a next Q r := by
  unfold effUp at h
  split at h
  · exact hk _ _ h
  · exact hk _ _ h
  · exact Calls.mono h fun e w'' ⟨v, he, hv⟩ => by subst he; exact hk _ _ hv
  · exact h.elim
structure EF (P : Program) (W : World) (n : Nat) (L : List Blk) (E : List (Nat × Value)) (o : Oper) (K : Value → List Blk → Prop) : Prop where
  run : ∀ a w, Env n a E → Hp W w L → effUp P (fun v w' => ∃ L', Hp W w' L' ∧ K v L') ((execOp a.eval o).run P w)
theorem EF.mono {P : Program} {W : World} {n : Nat} {L : List Blk} {E : List (Nat × Value)} {o : Oper} {K K' : Value → List Blk → Prop} (h : EF P W n L E o K) (hk : ∀ v L', K v L' → K' v L') : EF P W n L E o K' := by
  refine ⟨fun a w ha hw => ?_⟩
  have := h.run a w ha hw
  revert this
  generalize (execOp a.eval o).run P w = r
  intro this
  unfold effUp at this ⊢
  split
  · obtain ⟨L', h1, h2⟩ := this; exact ⟨L', h1, hk _ _ h2⟩
  · obtain ⟨L', h1, h2⟩ := this; exact ⟨L', h1, hk _ _ h2⟩
  · exact Calls.mono this fun e w'' ⟨v, he, L', h1, h2⟩ => ⟨v, he, L', h1, hk _ _ h2⟩
  · simp_all

/-! ### a list of operations (in the order of the text) -/
structure XO (P : Program) (W : World) (n : Nat) (ops : Array Oper) (Q : Exit → Act → World → Prop) (rest : List Oper) (L : List Blk) (E : List (Nat × Value)) : Prop where
  run : ∀ a w, Env n a E → Hp W w L → wpList P ops Q rest a w
structure XQ (W : World) (n : Nat) (Q : Exit → Act → World → Prop) (e : Exit) (L : List Blk) (E : List (Nat × Value)) : Prop where
  run : ∀ a w, Env n a E → Hp W w L → Q e a w
structure XC (P : Program) (W : World) (n : Nat) (c : Code) (Q : Exit → Act → World → Prop) (L : List Blk) (E : List (Nat × Value)) : Prop where
  run : ∀ a w, Env n a E → Hp W w L → c.wp P Q a w

section
variable {P : Program} {W : World} {n : Nat} {ops : Array Oper} {Q : Exit → Act → World → Prop} {rest : List Oper} {L : List Blk} {E : List (Nat × Value)}
theorem xo_nil (h : XQ W n Q .normal L E) : XO P W n ops Q [] L E := .mk fun a w ha hw => h.run a w ha hw
theorem xo_rd {d : Option Nat} {op : Op} {t : TypeId} {pos : String} {after : Array Edge} {v : Value}
    (hr : RD P W n L E ⟨d, op, t, pos, after, none⟩ v) (hd : okd n d = true) (h : XO P W n ops Q rest L (pt E d v)) : XO P W n ops Q (⟨d, op, t, pos, after, none⟩ :: rest) L E := by
  refine ⟨fun a w ha hw => ?_⟩
  unfold wpList
  simp only [Region.wanted, if_true]
  refine .inl ?_
  unfold Oper.wp
  rw [hr.run a w ha hw]
  exact h.run _ _ (ha.pt d v hd) hw
theorem xo_ef {d : Option Nat} {op : Op} {t : TypeId} {pos : String} {after : Array Edge}
    (hd : okd n d = true) (hr : EF P W n L E ⟨d, op, t, pos, after, none⟩ (fun v L' => XO P W n ops Q rest L' (pt E d v))) : XO P W n ops Q (⟨d, op, t, pos, after, none⟩ :: rest) L E := by
  refine ⟨fun a w ha hw => ?_⟩
  unfold wpList
  simp only [Region.wanted, if_true]
  refine .inl ?_
  unfold Oper.wp
  exact effUp.upon (hr.run a w ha hw) fun v w' ⟨L', h1, h2⟩ => h2.run _ _ (ha.pt d v hd) h1
theorem yielded_of {a : Act} (ha : Env n a E) {g t : Nat} {b : Bool} (hg : (ops[g]?).bind (·.dst) = some t) (ht : lk E t = some (.bool b)) : yielded ops a.tmps g = some b := by
  unfold yielded
  rw [hg]
  simp only [Option.bind_some]
  rw [ha.val t _ ht]
theorem xo_grd {d : Option Nat} {op : Op} {t : TypeId} {pos : String} {after : Array Edge} {v : Value} {g gt : Nat} {b : Bool}
    (hg : (ops[g]?).bind (·.dst) = some gt) (ht : lk E gt = some (.bool b))
    (hr : RD P W n L E ⟨d, op, t, pos, after, some (g, b)⟩ v) (hd : okd n d = true) (h : XO P W n ops Q rest L (pt E d v)) : XO P W n ops Q (⟨d, op, t, pos, after, some (g, b)⟩ :: rest) L E := by
  refine ⟨fun a w ha hw => ?_⟩
  unfold wpList
  have hy := yielded_of (ops := ops) ha hg ht
  rw [if_pos (by simp [Region.wanted, hy])]
  refine .inl ?_
  unfold Oper.wp
  rw [hr.run a w ha hw]
  exact h.run _ _ (ha.pt d v hd) hw
theorem xo_gef {d : Option Nat} {op : Op} {t : TypeId} {pos : String} {after : Array Edge} {g gt : Nat} {b : Bool}
    (hg : (ops[g]?).bind (·.dst) = some gt) (ht : lk E gt = some (.bool b)) (hd : okd n d = true)
    (hr : EF P W n L E ⟨d, op, t, pos, after, some (g, b)⟩ (fun v L' => XO P W n ops Q rest L' (pt E d v))) : XO P W n ops Q (⟨d, op, t, pos, after, some (g, b)⟩ :: rest) L E := by
  refine ⟨fun a w ha hw => ?_⟩
  unfold wpList
  have hy := yielded_of (ops := ops) ha hg ht
  rw [if_pos (by simp [Region.wanted, hy])]
  refine .inl ?_
  unfold Oper.wp
  exact effUp.upon (hr.run a w ha hw) fun v w' ⟨L', h1, h2⟩ => h2.run _ _ (ha.pt d v hd) h1
theorem xo_gskip {d : Option Nat} {op : Op} {t : TypeId} {pos : String} {after : Array Edge} {g gt : Nat} {b c : Bool}
    (hg : (ops[g]?).bind (·.dst) = some gt) (ht : lk E gt = some (.bool c)) (hc : (c == b) = false) (hd : okd n d = true)
    (h : XO P W n ops Q rest L (pt E d undef)) : XO P W n ops Q (⟨d, op, t, pos, after, some (g, b)⟩ :: rest) L E := by
  refine ⟨fun a w ha hw => ?_⟩
  unfold wpList
  have hy := yielded_of (ops := ops) ha hg ht
  rw [if_neg (by simpa [Region.wanted, hy] using hc)]
  exact h.run _ _ (ha.pt d undef hd) hw
theorem xo_split (t : Nat) {b : Bool} (ht : lk E t = some (.bool b)) (h1 : b = true → XO P W n ops Q rest L ((t, .bool true) :: E)) (h2 : b = false → XO P W n ops Q rest L ((t, .bool false) :: E)) : XO P W n ops Q rest L E := by
  refine ⟨fun a w ha hw => ?_⟩
  have hk : ∀ c, b = c → Env n a ((t, .bool c) :: E) := fun c hc => ha.keep (keep_cons (by rw [ht, hc]) (fun _ _ h => h))
  cases hb : b
  · exact (h2 hb).run a w (hk _ hb) hw
  · exact (h1 hb).run a w (hk _ hb) hw
theorem xo_keep {E' : List (Nat × Value)} (h : XO P W n ops Q rest L E') (hk : ∀ i v, lk E' i = some v → lk E i = some v) : XO P W n ops Q rest L E := .mk fun a w ha hw => h.run a w (ha.keep hk) hw
theorem xc_keep {c : Code} {E' : List (Nat × Value)} (h : XC P W n c Q L E') (hk : ∀ i v, lk E' i = some v → lk E i = some v) : XC P W n c Q L E := .mk fun a w ha hw => h.run a w (ha.keep hk) hw
theorem xo_perm {L' : List Blk} (hp : L.Perm L') (h : XO P W n ops Q rest L' E) : XO P W n ops Q rest L E := .mk fun a w ha hw => h.run a w ha (hw.perm hp)
theorem xc_perm {c : Code} {L' : List Blk} (hp : L.Perm L') (h : XC P W n c Q L' E) : XC P W n c Q L E := .mk fun a w ha hw => h.run a w ha (hw.perm hp)
theorem xo_sub {L' : List Blk} (hp : L'.Sublist L) (h : XO P W n ops Q rest L' E) : XO P W n ops Q rest L E := .mk fun a w ha hw => h.run a w ha (hw.sub hp)
theorem xc_sub {c : Code} {L' : List Blk} (hp : L'.Sublist L) (h : XC P W n c Q L' E) : XC P W n c Q L E := .mk fun a w ha hw => h.run a w ha (hw.sub hp)

/-! ### code -/
theorem xc_seq {x y : Code} (h : XC P W n x (Exit.then (fun a w => y.wp P Q a w) Q) L E) : XC P W n (.seq x y) Q L E := .mk fun a w ha hw => wp_seq (h.run a w ha hw)
theorem xc_skip (h : XQ W n Q .normal L E) : XC P W n .skip Q L E := .mk fun a w ha hw => wp_skip (h.run a w ha hw)
theorem xc_ret (h : XQ W n Q .ret L E) : XC P W n .ret Q L E := .mk fun a w ha hw => wp_ret (h.run a w ha hw)
theorem xc_exit {id : Nat} (h : XQ W n Q (.exit id) L E) : XC P W n (.exit id) Q L E := .mk fun a w ha hw => wp_exit (h.run a w ha hw)
theorem xc_block {id : Nat} {c : Code} (h : XC P W n c (Exit.inBlock id Q) L E) : XC P W n (.block id c) Q L E := .mk fun a w ha hw => wp_block (h.run a w ha hw)
theorem xc_region {id : Nat} {l : List Oper} (h : XO P W n l.toArray Q l L E) : XC P W n (.region id l.toArray false) Q L E := .mk fun a w ha hw => wp_region_lit (h.run a w ha hw)
theorem xc_cond {c : Operand} {x y : Code} {b : Bool} (hc : ev E c = some (.bool b)) (h1 : b = true → XC P W n x Q L E) (h2 : b = false → XC P W n y Q L E) : XC P W n (.cond c x y) Q L E := .mk fun a w ha hw =>
  wp_cond_split (ha.eval hc) (fun h => (h1 h).run a w ha hw) (fun h => (h2 h).run a w ha hw)
theorem xc_condt {c : Operand} {x y : Code} (hc : ev E c = some (.bool true)) (h1 : XC P W n x Q L E) : XC P W n (.cond c x y) Q L E := xc_cond hc (fun _ => h1) (fun h => by cases h)
theorem xc_condf {c : Operand} {x y : Code} (hc : ev E c = some (.bool false)) (h1 : XC P W n y Q L E) : XC P W n (.cond c x y) Q L E := xc_cond hc (fun h => by cases h) (fun _ => h1)
theorem wp_loop_ex {c : Code} {ι : Type} (μ : ι → Nat) (J : ι → Act → World → Prop) (i0 : ι) {a : Act} {w : World} (h0 : J i0 a w)
    (round : ∀ i a w, J i a w → c.wp P (Exit.then (fun a' w' => ∃ j, μ j < μ i ∧ J j a' w') Q) a w) : (Code.loop c).wp P Q a w := by
  intro b k cs
  have key : ∀ m i a w, μ i = m → J i a w → ∃ e a' w', Q e a' w' ∧ Arrives P (lone (b.at a (.code c :: .inLoop c :: k)) cs w) b k cs e a' w' := by
    intro m
    induction m using Nat.strongRecOn with
    | _ m ih =>
      intro i a w hm hJ
      obtain ⟨e, a₁, w₁, hq, harr⟩ := round i a w hJ b (.inLoop c :: k) cs
      cases e with
      | normal =>
        obtain ⟨j, hlt, hJ₁⟩ := hq
        obtain ⟨e₂, a₂, w₂, hq₂, harr₂⟩ := ih (μ j) (hm ▸ hlt) j a₁ w₁ rfl hJ₁
        exact ⟨e₂, a₂, w₂, hq₂, .of_steps (Steps.trans harr (.one step_inLoop)) harr₂⟩
      | exit id => exact ⟨_, a₁, w₁, hq, .pass (x := .inLoop c) rfl (fun _ _ => .inl (by simp)) harr⟩
      | goto l => exact ⟨_, a₁, w₁, hq, .pass (x := .inLoop c) rfl (fun _ _ => .inl (by simp)) harr⟩
      | ret => exact ⟨_, a₁, w₁, hq, .pass (x := .inLoop c) rfl (fun _ _ => .inl (by simp)) harr⟩
      | panic ch => exact ⟨_, a₁, w₁, hq, .pass (x := .inLoop c) rfl (fun _ _ => .inl (by simp)) harr⟩
      | outgrown => exact ⟨_, a₁, w₁, hq, .pass (x := .inLoop c) rfl (fun _ _ => .inl (by simp)) harr⟩
  obtain ⟨e, a', w', hq, harr⟩ := key _ i0 a w rfl h0
  exact ⟨e, a', w', hq, .of_steps (.one step_loop) harr⟩
theorem xc_loop {c : Code} {ι : Type} (μ : ι → Nat) (Ls : ι → List Blk) (Es : ι → List (Nat × Value)) (i0 : ι) (hL : L = Ls i0) (hE : ∀ i v, lk (Es i0) i = some v → lk E i = some v)
    (round : ∀ i, XC P W n c (Exit.then (fun a w => ∃ j, μ j < μ i ∧ Env n a (Es j) ∧ Hp W w (Ls j)) Q) (Ls i) (Es i)) : XC P W n (.loop c) Q L E := by
  refine ⟨fun a w ha hw => ?_⟩
  subst hL
  exact wp_loop_ex μ (fun i a w => Env n a (Es i) ∧ Hp W w (Ls i)) i0 ⟨ha.keep hE, hw⟩ fun i a w ⟨h1, h2⟩ => (round i).run a w h1 h2
theorem xc_loopI {c : Code} {ι : Type} (I : ι → Prop) (μ : ι → Nat) (Ls : ι → List Blk) (Es : ι → List (Nat × Value)) (i0 : ι) (h0 : I i0) (hL : L = Ls i0) (hE : ∀ i v, lk (Es i0) i = some v → lk E i = some v)
    (round : ∀ i, I i → XC P W n c (Exit.then (fun a w => ∃ j, I j ∧ μ j < μ i ∧ Env n a (Es j) ∧ Hp W w (Ls j)) Q) (Ls i) (Es i)) : XC P W n (.loop c) Q L E := by
  refine ⟨fun a w ha hw => ?_⟩
  subst hL
  refine wp_loop_ex μ (fun i a w => I i ∧ Env n a (Es i) ∧ Hp W w (Ls i)) i0 ⟨h0, ha.keep hE, hw⟩ fun i a w ⟨hi, h1, h2⟩ => Code.wp_mono ?_ ((round i hi).run a w h1 h2)
  intro e a' w' q
  cases e with
  | normal => obtain ⟨j, q1, q2, q3, q4⟩ := q; exact ⟨j, q2, q1, q3, q4⟩
  | _ => exact q
theorem xq_roundI {ι : Type} {I : ι → Prop} {μ : ι → Nat} {Ls : ι → List Blk} {Es : ι → List (Nat × Value)} {m : Nat} (j : ι) (hj : I j) (hm : μ j < m) (hL : L = Ls j) (hE : ∀ k v, lk (Es j) k = some v → lk E k = some v) :
    XQ W n (Exit.then (fun a w => ∃ j, I j ∧ μ j < m ∧ Env n a (Es j) ∧ Hp W w (Ls j)) Q) .normal L E := .mk fun a w ha hw => ⟨j, hj, hm, ha.keep hE, hL ▸ hw⟩
theorem xq_tail {p : Blk} {e : Exit} (h : XQ W n Q e L E) : XQ W n Q e (p :: L) E := .mk fun a w ha hw => h.run a w ha (hw.sub (List.sublist_cons_self _ _))
theorem xo_tail {p : Blk} (h : XO P W n ops Q rest L E) : XO P W n ops Q rest (p :: L) E := .mk fun a w ha hw => h.run a w ha (hw.sub (List.sublist_cons_self _ _))
theorem xc_tail {c : Code} {p : Blk} (h : XC P W n c Q L E) : XC P W n c Q (p :: L) E := .mk fun a w ha hw => h.run a w ha (hw.sub (List.sublist_cons_self _ _))
theorem xq_drop (A : List Blk) {p : Blk} {e : Exit} (h : XQ W n Q e (A ++ L) E) : XQ W n Q e (A ++ p :: L) E := .mk fun a w ha hw => h.run a w ha (hw.sub ((List.Sublist.refl A).append (List.sublist_cons_self _ _)))
theorem xo_drop (A : List Blk) {p : Blk} (h : XO P W n ops Q rest (A ++ L) E) : XO P W n ops Q rest (A ++ p :: L) E := .mk fun a w ha hw => h.run a w ha (hw.sub ((List.Sublist.refl A).append (List.sublist_cons_self _ _)))
theorem xc_drop (A : List Blk) {c : Code} {p : Blk} (h : XC P W n c Q (A ++ L) E) : XC P W n c Q (A ++ p :: L) E := .mk fun a w ha hw => h.run a w ha (hw.sub ((List.Sublist.refl A).append (List.sublist_cons_self _ _)))
theorem xq_sub {L' : List Blk} {e : Exit} (hp : L'.Sublist L) (h : XQ W n Q e L' E) : XQ W n Q e L E := .mk fun a w ha hw => h.run a w ha (hw.sub hp)
theorem xq_perm {L' : List Blk} {e : Exit} (hp : L.Perm L') (h : XQ W n Q e L' E) : XQ W n Q e L E := .mk fun a w ha hw => h.run a w ha (hw.perm hp)
theorem xq_keep {E' : List (Nat × Value)} {e : Exit} (h : XQ W n Q e L E') (hk : ∀ i v, lk E' i = some v → lk E i = some v) : XQ W n Q e L E := .mk fun a w ha hw => h.run a w (ha.keep hk) hw
theorem xq_then {N : Act → World → Prop} (h : ∀ a w, Env n a E → Hp W w L → N a w) : XQ W n (Exit.then N Q) .normal L E := ⟨h⟩
theorem xq_seq {y : Code} (h : XC P W n y Q L E) : XQ W n (Exit.then (fun a w => y.wp P Q a w) Q) .normal L E := ⟨h.run⟩
theorem xq_round {ι : Type} {μ : ι → Nat} {Ls : ι → List Blk} {Es : ι → List (Nat × Value)} {i : ι} (j : ι) (hm : μ j < μ i) (hL : L = Ls j) (hE : ∀ k v, lk (Es j) k = some v → lk E k = some v) :
    XQ W n (Exit.then (fun a w => ∃ j, μ j < μ i ∧ Env n a (Es j) ∧ Hp W w (Ls j)) Q) .normal L E := .mk fun a w ha hw => ⟨j, hm, ha.keep hE, hL ▸ hw⟩
theorem xq_then_exit {N : Act → World → Prop} {id : Nat} (h : XQ W n Q (.exit id) L E) : XQ W n (Exit.then N Q) (.exit id) L E := ⟨h.run⟩
theorem xq_then_ret {N : Act → World → Prop} (h : XQ W n Q .ret L E) : XQ W n (Exit.then N Q) .ret L E := ⟨h.run⟩
theorem xq_block {id : Nat} (h : XQ W n Q .normal L E) : XQ W n (Exit.inBlock id Q) .normal L E := ⟨h.run⟩
theorem xq_block_ret {id : Nat} (h : XQ W n Q .ret L E) : XQ W n (Exit.inBlock id Q) .ret L E := ⟨h.run⟩
theorem xq_block_hit {id : Nat} (h : XQ W n Q .normal L E) : XQ W n (Exit.inBlock id Q) (.exit id) L E := .mk fun a w ha hw => by
  show (if id = id then Q .normal a w else Q (.exit id) a w); rw [if_pos rfl]; exact h.run a w ha hw
theorem xq_block_miss {id id' : Nat} (hne : Nat.beq id' id = false) (h : XQ W n Q (.exit id') L E) : XQ W n (Exit.inBlock id Q) (.exit id') L E := .mk fun a w ha hw => by
  show (if id' = id then Q .normal a w else Q (.exit id') a w); rw [if_neg (fun e => by subst e; simp at hne)]; exact h.run a w ha hw
end

/-! ### calls -/
structure XF (P : Program) (W : World) (f : FuncId) (args : Array Value) (L : List Blk) (K : Value → List Blk → Prop) : Prop where
  run : ∀ w, Hp W w L → Calls P f args w fun e w' => ∃ v, e = .returned v ∧ ∃ L', Hp W w' L' ∧ K v L'
def XP (W : World) (K : Value → List Blk → Prop) (e : Ending) (w' : World) : Prop := ∃ v, e = .returned v ∧ ∃ L', Hp W w' L' ∧ K v L'
def zipArgs : Nat → List Value → List (Nat × Value)
  | _, [] => []
  | i, v :: r => (i, v) :: zipArgs (i + 1) r
theorem lk_zipArgs : ∀ (l : List Value) (k i : Nat) (v : Value), lk (zipArgs k l) i = some v → k ≤ i ∧ l[i - k]? = some v
  | [], _, _, _, h => by cases h
  | u :: r, k, i, v, h => by
    rw [zipArgs, lk_cons] at h
    split at h
    · rename_i e; subst e; simpa using h
    · rename_i hne
      obtain ⟨h1, h2⟩ := lk_zipArgs r (k + 1) i v h
      refine ⟨by omega, ?_⟩
      rw [show i - k = (i - (k + 1)) + 1 by omega]; simpa using h2
section
variable {P : Program} {W : World} {f : FuncId} {L : List Blk} {K : Value → List Blk → Prop}
theorem XF.mono {args : Array Value} {K' : Value → List Blk → Prop} (h : XF P W f args L K) (hk : ∀ v L', K v L' → K' v L') : XF P W f args L K' := .mk fun w hw =>
  Calls.mono (h.run w hw) fun e w' ⟨v, he, L', h1, h2⟩ => ⟨v, he, L', h1, hk _ _ h2⟩
theorem XF.perm {args : Array Value} {L' : List Blk} (h : XF P W f args L' K) (hp : L.Perm L') : XF P W f args L K := .mk fun w hw => h.run w (hw.perm hp)
theorem XF.sub {args : Array Value} {L' : List Blk} (h : XF P W f args L' K) (hp : L'.Sublist L) : XF P W f args L K := .mk fun w hw => h.run w (hw.sub hp)
theorem xf_enter {fn : Func} {c : Code} {args : List Value} {n : Nat} (hf : P.funcs[f]? = some fn) (hb : fn.body = some c) (hn : fn.ntmps = n) (hl : Nat.ble args.length n = true)
    (h : XC P W n c (bodyPost P fn (XP W K)) L (zipArgs 0 args)) : XF P W f args.toArray L K := by
  refine ⟨fun w hw => ?_⟩
  refine calls_of_wp hf hb (h.run _ w ⟨rfl, ?_, fun i v hv => ?_⟩ hw)
  · have : args.length ≤ n := by simpa [Nat.ble_eq] using hl
    simp [hn]; omega
  · obtain ⟨_, h2⟩ := lk_zipArgs args 0 i v hv
    have h3 := (List.getElem?_eq_some_iff.1 h2).1
    simp only [Nat.sub_zero] at h2 h3
    rw [Array.getElem?_append_left (by simpa using h3)]
    simpa using h2
/-- The end: the results lie in slots. -/
theorem xq_ret1 {fn : Func} {n : Nat} {E : List (Nat × Value)} {t : Nat} {v : Value} {e : Exit} (he : e = .ret ∨ e = .normal) (hr : fn.results = #[.tmp t]) (ht : lk E t = some v) (h : K v L) : XQ W n (bodyPost P fn (XP W K)) e L E := by
  refine ⟨fun a w ha hw => ?_⟩
  have hres : (results fn a.tmps).run P w = .ok v w := by
    rw [results_tmp hr]; congr 1; simp [Array.getD_eq_getD_getElem?, ha.val t v ht]
  rcases he with rfl | rfl
  · exact ⟨ha.defers, v, hres, v, rfl, L, hw, h⟩
  · exact ⟨ha.defers, v, hres, v, rfl, L, hw, h⟩
theorem xq_ret0 {fn : Func} {n : Nat} {E : List (Nat × Value)} {e : Exit} (he : e = .ret ∨ e = .normal) (hr : fn.results = #[]) (h : K (.tuple #[]) L) : XQ W n (bodyPost P fn (XP W K)) e L E := by
  refine ⟨fun a w ha hw => ?_⟩
  have hres : (results fn a.tmps).run P w = .ok (.tuple #[]) w := results_none hr _ _ _
  rcases he with rfl | rfl
  · exact ⟨ha.defers, _, hres, _, rfl, L, hw, h⟩
  · exact ⟨ha.defers, _, hres, _, rfl, L, hw, h⟩
theorem xq_ret2 {fn : Func} {n : Nat} {E : List (Nat × Value)} {t u : Nat} {v x : Value} {e : Exit} (he : e = .ret ∨ e = .normal) (hr : fn.results = #[.tmp t, .tmp u]) (ht : lk E t = some v) (hu : lk E u = some x) (h : K (.tuple #[v, x]) L) : XQ W n (bodyPost P fn (XP W K)) e L E := by
  refine ⟨fun a w ha hw => ?_⟩
  have hres : (results fn a.tmps).run P w = .ok (.tuple #[v, x]) w := by
    rw [results_tmp2 hr]; congr 1; simp [Array.getD_eq_getD_getElem?, ha.val t v ht, ha.val u x hu]
  rcases he with rfl | rfl
  · exact ⟨ha.defers, _, hres, _, rfl, L, hw, h⟩
  · exact ⟨ha.defers, _, hres, _, rfl, L, hw, h⟩
/-- The end in general: the results are read. -/
theorem xq_retg {fn : Func} {n : Nat} {E : List (Nat × Value)} {v : Value} {e : Exit} (he : e = .ret ∨ e = .normal) (hres : ∀ a w, Env n a E → Hp W w L → (results fn a.tmps).run P w = .ok v w) (h : K v L) : XQ W n (bodyPost P fn (XP W K)) e L E := by
  refine ⟨fun a w ha hw => ?_⟩
  rcases he with rfl | rfl
  · exact ⟨ha.defers, _, hres a w ha hw, _, rfl, L, hw, h⟩
  · exact ⟨ha.defers, _, hres a w ha hw, _, rfl, L, hw, h⟩
end
end Go.Proofs.Ytoolgphkfnkajaa.X
/-
  Words of my own for walks, second part: operations that only read. No condition; generic over the program.
-/
namespace Go.Proofs.Ytoolgphkfnkajaa.X
open Go Go.RowKit
set_option linter.unusedVariables false
set_option linter.unusedSimpArgs false

/-! ### what is known of types -/
class Sl (P : Program) (T : Nat) (e : outParam Nat) : Prop where h : P.underlying T = some (.slice e)
class Ik (P : Program) (T : Nat) (k : outParam IntKind) : Prop where h : P.underlying T = some (.int k)
class St (P : Program) (T : Nat) : Prop where h : P.underlying T = some .string
class Bo (P : Program) (T : Nat) : Prop where h : P.underlying T = some .bool
class Pn (P : Program) (T : Nat) (e : outParam Nat) : Prop where h : P.underlying T = some (.pointer e)
class Mp (P : Program) (T : Nat) (k e : outParam Nat) : Prop where h : P.underlying T = some (.map k e)
class Ar (P : Program) (T : Nat) (n e : outParam Nat) : Prop where h : P.underlying T = some (.array n e)
class Fd (P : Program) (S i : Nat) (off T : outParam Nat) : Prop where h : ∃ fs f, P.underlying S = some (.struct fs) ∧ fs[i]? = some f ∧ f.offset = off ∧ f.type = T
class Ts (P : Program) (T : Nat) (n : outParam Nat) : Prop where h : ∀ w, (sizeOf T).run P w = .ok n w
class Ta (P : Program) (T : Nat) (b : outParam Bool) : Prop where h : ∀ w, (isAgg T).run P w = .ok b w
class T0 (P : Program) (T : Nat) (z : outParam Value) : Prop where h : ∀ w, (zeroValue T).run P w = .ok z w
class Tb (P : Program) (T : Nat) (n : outParam Nat) : Prop where h : ∃ i, P.info? T = some i ∧ i.bytes = n
class Cf (P : Program) (f : Nat) : Prop where h : ∀ args w, (callFunc f args).run P w = .ok (.enter f args) w

def evs (E : List (Nat × Value)) : List Operand → Option (List Value)
  | [] => some []
  | x :: r => match ev E x with
    | some v => (match evs E r with
      | some vs => some (v :: vs)
      | none => none)
    | none => none
theorem Env.evals {n : Nat} {a : Act} {E : List (Nat × Value)} (h : Env n a E) : ∀ {l : List Operand} {vs : List Value}, evs E l = some vs → l.map a.eval = vs
  | [], vs, hv => by cases hv; rfl
  | x :: r, vs, hv => by
    unfold evs at hv
    split at hv
    · rename_i v hx
      split at hv
      · rename_i us hr
        cases hv
        rw [List.map_cons, h.eval hx, h.evals hr]
      · cases hv
    · cases hv

section
variable {P : Program} {W : World} {n : Nat} {L : List Blk} {E : List (Nat × Value)} {d : Option Nat} {t : TypeId} {pos : String} {after : Array Edge} {g : Option (Nat × Bool)}

theorem add_zero' (b i j : Nat) : (⟨b, i, none⟩ : Addr).add j = ⟨b, i + j, none⟩ := by
  unfold Addr.add
  split
  · rename_i h; subst h; rfl
  · rfl

theorem rd_move {x : Operand} {v : Value} (hx : ev E x = some v) : RD P W n L E ⟨d, .move x, t, pos, after, g⟩ v := .mk fun a w ha hw => by
  simp only [execOp, ha.eval hx]; rfl
theorem rd_assign {x : Operand} {v : Value} (hx : ev E x = some v) : RD P W n L E ⟨d, .assign x, t, pos, after, g⟩ v := .mk fun a w ha hw => by
  simp only [execOp, ha.eval hx]; rfl
theorem rd_pickt {c x y : Operand} {v : Value} (hc : ev E c = some (.bool true)) (hx : ev E x = some v) : RD P W n L E ⟨d, .pick c x y, t, pos, after, g⟩ v := .mk fun a w ha hw => by
  simp [execOp, ha.eval hx, ha.eval hc, asBool]
theorem rd_pickf {c x y : Operand} {v : Value} (hc : ev E c = some (.bool false)) (hx : ev E y = some v) : RD P W n L E ⟨d, .pick c x y, t, pos, after, g⟩ v := .mk fun a w ha hw => by
  simp [execOp, ha.eval hx, ha.eval hc, asBool]
theorem rd_nilCheck {x : Operand} {p : Addr} (hx : ev E x = some (.pointer (some p))) : RD P W n L E ⟨d, .nilCheck x, t, pos, after, g⟩ (.pointer (some p)) := .mk fun a w ha hw => by
  simp only [execOp, ha.eval hx]; rfl
theorem rd_load1 {T : Nat} {x : Operand} {b i : Nat} {v : Value} [hT : Ta P T false] (hx : ev E x = some (.pointer (some ⟨b, i, none⟩))) (hc : Cl W L b i v) :
    RD P W n L E ⟨d, .load T x, t, pos, after, g⟩ v := .mk fun a w ha hw => by
  have hA := hT.h w
  simp [execOp, ha.eval hx, Instr.loadAt, Instr.sureAddr, loadVar, hA, hc.get hw]
theorem rd_loadA {T : Nat} {x : Operand} {b i m : Nat} {vs : List Value} [hT : Ta P T true] [hS : Ts P T m] (hx : ev E x = some (.pointer (some ⟨b, i, none⟩))) (hm : vs.length = m)
    (hc : ∀ j v, vs[j]? = some v → Cl W L b (i + j) v) : RD P W n L E ⟨d, .load T x, t, pos, after, g⟩ (.agg vs.toArray) := .mk fun a w ha hw => by
  have hA := hT.h w
  have hB := hS.h w
  subst hm
  have hl := run_loadCells_list (P := P) w ⟨b, i, none⟩ vs (fun j v hj => by rw [add_zero']; exact (hc j v hj).get hw)
  simp [execOp, ha.eval hx, Instr.loadAt, Instr.sureAddr, loadVar, hA, hB, hl]
/-- A whole block of the own ones, or of the base world. -/
theorem rd_loadB {T : Nat} {x : Operand} {b m : Nat} {vs : List Value} {T' : TypeId} {fr : Nat × Nat} [hT : Ta P T true] [hS : Ts P T m] (hx : ev E x = some (.pointer (some ⟨b, 0, none⟩))) (hk : Kn W L b (.cells vs.toArray T' fr)) (hm : vs.length = m) :
    RD P W n L E ⟨d, .load T x, t, pos, after, g⟩ (.agg vs.toArray) :=
  rd_loadA (m := m) hx hm (fun j v hj => ⟨_, _, _, hk, by simpa using hj⟩)
theorem rd_fieldAddr {S f off T m b i : Nat} {x : Operand} [hF : Fd P S f off T] [hS : Ts P T (m + 1)] (hx : ev E x = some (.pointer (some ⟨b, i, none⟩))) :
    RD P W n L E ⟨d, .fieldAddr S x f, t, pos, after, g⟩ (.pointer (some ⟨b, i + off, none⟩)) := .mk fun a w ha hw => by
  obtain ⟨fs, fd, h1, h2, h3, h4⟩ := hF.h
  have hB := hS.h w
  subst h3; subst h4
  simp [execOp, ha.eval hx, Instr.fieldAt, run_underlying h1, h2, Instr.sureAddr, fieldPlace, hB, add_zero']
theorem rd_indexAddr {T e m b o len cap : Nat} {x y : Operand} {k : IntKind} {j : Int} [hT : Sl P T e] [hS : Ts P e m] (hx : ev E x = some (.slice (some ⟨b, o, none⟩) len cap)) (hy : ev E y = some (.int k j)) (h0 : 0 ≤ j) (h1 : j < len) :
    RD P W n L E ⟨d, .indexAddr T x y, t, pos, after, g⟩ (.pointer (some ⟨b, o + j.toNat * m, none⟩)) := .mk fun a w ha hw => by
  have hB := hS.h w
  simp [execOp, ha.eval hx, ha.eval hy, Instr.indexAt, run_underlying hT.h, asIntOf, hB, h0, h1, add_zero']
theorem rd_indexAddrArr {T e m b o len : Nat} {x y : Operand} {k : IntKind} {j : Int} [hT : Ar P T len e] [hS : Ts P e m] (hx : ev E x = some (.pointer (some ⟨b, o, none⟩))) (hy : ev E y = some (.int k j)) (h0 : 0 ≤ j) (h1 : j < len) :
    RD P W n L E ⟨d, .indexAddr T x y, t, pos, after, g⟩ (.pointer (some ⟨b, o + j.toNat * m, none⟩)) := .mk fun a w ha hw => by
  have hB := hS.h w
  simp [execOp, ha.eval hx, ha.eval hy, Instr.indexAt, run_underlying hT.h, asIntOf, Instr.sureAddr, hB, h0, h1, add_zero']
theorem rd_indexStr {T : Nat} {x y : Operand} {k : IntKind} {j : Int} {s : ByteArray} {u : UInt8} [hT : St P T] (hx : ev E x = some (.string s)) (hy : ev E y = some (.int k j)) (h0 : 0 ≤ j) (h1 : s[j.toNat]? = some u) :
    RD P W n L E ⟨d, .index T x y, t, pos, after, g⟩ (.int .u8 u.toNat) := .mk fun a w ha hw => by
  simp [execOp, ha.eval hx, ha.eval hy, Instr.index, run_underlying hT.h, asIntOf, h0, h1]
theorem rd_len {T : Nat} {x : Operand} {p : Option Addr} {len cap e : Nat} [hT : Sl P T e] (hx : ev E x = some (.slice p len cap)) :
    RD P W n L E ⟨d, .call ⟨.builtin .len, #[x], #[T]⟩, t, pos, after, g⟩ (.int .i64 len) := .mk fun a w ha hw => by
  simp [execOp, resolve, invoke, builtin, ha.eval hx, Builtin.len_, run_underlying hT.h, goInt]
theorem rd_lenStr {T : Nat} {x : Operand} {s : ByteArray} [hT : St P T] (hx : ev E x = some (.string s)) :
    RD P W n L E ⟨d, .call ⟨.builtin .len, #[x], #[T]⟩, t, pos, after, g⟩ (.int .i64 s.size) := .mk fun a w ha hw => by
  simp [execOp, resolve, invoke, builtin, ha.eval hx, Builtin.len_, run_underlying hT.h, goInt]
theorem rd_cap {T : Nat} {x : Operand} {p : Option Addr} {len cap e : Nat} [hT : Sl P T e] (hx : ev E x = some (.slice p len cap)) :
    RD P W n L E ⟨d, .call ⟨.builtin .cap, #[x], #[T]⟩, t, pos, after, g⟩ (.int .i64 cap) := .mk fun a w ha hw => by
  simp [execOp, resolve, invoke, builtin, ha.eval hx, Builtin.cap_, run_underlying hT.h, goInt]
theorem rd_max {T T' : Nat} {x y : Operand} {k : IntKind} {i j : Int} (hx : ev E x = some (.int k i)) (hy : ev E y = some (.int k j)) :
    RD P W n L E ⟨d, .call ⟨.builtin .max, #[x, y], #[T, T']⟩, t, pos, after, g⟩ (.int k (if j > i then j else i)) := .mk fun a w ha hw => by
  simp [execOp, resolve, invoke, builtin, ha.eval hx, ha.eval hy, Builtin.max_, Builtin.max2]
theorem rd_min {T T' : Nat} {x y : Operand} {k : IntKind} {i j : Int} (hx : ev E x = some (.int k i)) (hy : ev E y = some (.int k j)) :
    RD P W n L E ⟨d, .call ⟨.builtin .min, #[x, y], #[T, T']⟩, t, pos, after, g⟩ (.int k (if j < i then j else i)) := .mk fun a w ha hw => by
  simp [execOp, resolve, invoke, builtin, ha.eval hx, ha.eval hy, Builtin.min_, Builtin.min2]
theorem rd_add {T T' : Nat} {x y : Operand} {k : IntKind} {i j : Int} (hx : ev E x = some (.int k i)) (hy : ev E y = some (.int k j)) :
    RD P W n L E ⟨d, .binOp .add T x y T', t, pos, after, g⟩ (.int k (k.wrap (i + j))) := .mk fun a w ha hw => by
  simp [execOp, ha.eval hx, ha.eval hy, eqGuard, binOp, Op.intArith]
theorem rd_sub {T T' : Nat} {x y : Operand} {k : IntKind} {i j : Int} (hx : ev E x = some (.int k i)) (hy : ev E y = some (.int k j)) :
    RD P W n L E ⟨d, .binOp .sub T x y T', t, pos, after, g⟩ (.int k (k.wrap (i - j))) := .mk fun a w ha hw => by
  simp [execOp, ha.eval hx, ha.eval hy, eqGuard, binOp, Op.intArith]
theorem rd_mul {T T' : Nat} {x y : Operand} {k : IntKind} {i j : Int} (hx : ev E x = some (.int k i)) (hy : ev E y = some (.int k j)) :
    RD P W n L E ⟨d, .binOp .mul T x y T', t, pos, after, g⟩ (.int k (k.wrap (i * j))) := .mk fun a w ha hw => by
  simp [execOp, ha.eval hx, ha.eval hy, eqGuard, binOp, Op.intArith]
theorem rd_cast {o : Oper} {v v' : Value} (h : RD P W n L E o v) (e : v = v') : RD P W n L E o v' := e ▸ h
theorem rd_quo {T T' : Nat} {x y : Operand} {k : IntKind} {i j : Int} (hx : ev E x = some (.int k i)) (hy : ev E y = some (.int k j)) (hj : j ≠ 0) :
    RD P W n L E ⟨d, .binOp .quo T x y T', t, pos, after, g⟩ (.int k (k.wrap (i.tdiv j))) := .mk fun a w ha hw => by
  simp [execOp, ha.eval hx, ha.eval hy, eqGuard, binOp, Op.intDiv, hj]
theorem rd_rem {T T' : Nat} {x y : Operand} {k : IntKind} {i j : Int} (hx : ev E x = some (.int k i)) (hy : ev E y = some (.int k j)) (hj : j ≠ 0) :
    RD P W n L E ⟨d, .binOp .rem T x y T', t, pos, after, g⟩ (.int k (i.tmod j)) := .mk fun a w ha hw => by
  simp [execOp, ha.eval hx, ha.eval hy, eqGuard, binOp, Op.intDiv, hj]
theorem rd_and {T T' : Nat} {x y : Operand} {k : IntKind} {i j : Int} (hx : ev E x = some (.int k i)) (hy : ev E y = some (.int k j)) :
    RD P W n L E ⟨d, .binOp .and T x y T', t, pos, after, g⟩ (.int k (bits .and k i j)) := .mk fun a w ha hw => by
  simp [execOp, ha.eval hx, ha.eval hy, eqGuard, binOp, intBits_and]
theorem rd_or {T T' : Nat} {x y : Operand} {k : IntKind} {i j : Int} (hx : ev E x = some (.int k i)) (hy : ev E y = some (.int k j)) :
    RD P W n L E ⟨d, .binOp .or T x y T', t, pos, after, g⟩ (.int k (bits .or k i j)) := .mk fun a w ha hw => by
  simp [execOp, ha.eval hx, ha.eval hy, eqGuard, binOp, intBits_or]
theorem rd_shl {T T' : Nat} {x y : Operand} {k k' : IntKind} {i j : Int} (hx : ev E x = some (.int k i)) (hy : ev E y = some (.int k' j)) (h0 : 0 ≤ j) (h1 : j ≤ k.bits) :
    RD P W n L E ⟨d, .binOp .shl T x y T', t, pos, after, g⟩ (.int k (k.wrap (i * 2 ^ j.toNat))) := .mk fun a w ha hw => by
  simp [execOp, ha.eval hx, ha.eval hy, eqGuard, binOp, shift_shl _ _ _ _ h0 h1]
theorem rd_shr {T T' : Nat} {x y : Operand} {k k' : IntKind} {i j : Int} (hx : ev E x = some (.int k i)) (hy : ev E y = some (.int k' j)) (h0 : 0 ≤ j) (h1 : j ≤ k.bits) :
    RD P W n L E ⟨d, .binOp .shr T x y T', t, pos, after, g⟩ (.int k (i / 2 ^ j.toNat)) := .mk fun a w ha hw => by
  simp [execOp, ha.eval hx, ha.eval hy, eqGuard, binOp, shift_shr _ _ _ _ h0 h1]
theorem rd_lss {T T' : Nat} {x y : Operand} {k : IntKind} {i j : Int} (hx : ev E x = some (.int k i)) (hy : ev E y = some (.int k j)) :
    RD P W n L E ⟨d, .binOp .lss T x y T', t, pos, after, g⟩ (.bool (decide (i < j))) := .mk fun a w ha hw => by
  simp [execOp, ha.eval hx, ha.eval hy, eqGuard, binOp, Op.intCmp]
theorem rd_leq {T T' : Nat} {x y : Operand} {k : IntKind} {i j : Int} (hx : ev E x = some (.int k i)) (hy : ev E y = some (.int k j)) :
    RD P W n L E ⟨d, .binOp .leq T x y T', t, pos, after, g⟩ (.bool (decide (i ≤ j))) := .mk fun a w ha hw => by
  simp [execOp, ha.eval hx, ha.eval hy, eqGuard, binOp, Op.intCmp]
theorem rd_gtr {T T' : Nat} {x y : Operand} {k : IntKind} {i j : Int} (hx : ev E x = some (.int k i)) (hy : ev E y = some (.int k j)) :
    RD P W n L E ⟨d, .binOp .gtr T x y T', t, pos, after, g⟩ (.bool (decide (j < i))) := .mk fun a w ha hw => by
  simp [execOp, ha.eval hx, ha.eval hy, eqGuard, binOp, Op.intCmp]
theorem rd_geq {T T' : Nat} {x y : Operand} {k : IntKind} {i j : Int} (hx : ev E x = some (.int k i)) (hy : ev E y = some (.int k j)) :
    RD P W n L E ⟨d, .binOp .geq T x y T', t, pos, after, g⟩ (.bool (decide (j ≤ i))) := .mk fun a w ha hw => by
  simp [execOp, ha.eval hx, ha.eval hy, eqGuard, binOp, Op.intCmp]
theorem rd_eql {T T' : Nat} {x y : Operand} {k : IntKind} {i j : Int} (hx : ev E x = some (.int k i)) (hy : ev E y = some (.int k j)) :
    RD P W n L E ⟨d, .binOp .eql T x y T', t, pos, after, g⟩ (.bool (decide (i = j))) := .mk fun a w ha hw => by
  have hd : (i == j) = decide (i = j) := by by_cases h : i = j <;> simp [h]
  simp [execOp, ha.eval hx, ha.eval hy, eqGuard, binOp, Op.intCmp, hd]
theorem rd_neq {T T' : Nat} {x y : Operand} {k : IntKind} {i j : Int} (hx : ev E x = some (.int k i)) (hy : ev E y = some (.int k j)) :
    RD P W n L E ⟨d, .binOp .neq T x y T', t, pos, after, g⟩ (.bool (!decide (i = j))) := .mk fun a w ha hw => by
  have hd : (i == j) = decide (i = j) := by by_cases h : i = j <;> simp [h]
  simp [execOp, ha.eval hx, ha.eval hy, eqGuard, binOp, Op.intCmp, bne, hd]
theorem rd_eqb {T T' : Nat} {x y : Operand} {i j : Bool} [hT : Bo P T] (hx : ev E x = some (.bool i)) (hy : ev E y = some (.bool j)) :
    RD P W n L E ⟨d, .binOp .eql T x y T', t, pos, after, g⟩ (.bool (i == j)) := .mk fun a w ha hw => by
  have hb : (Op.equalIn Op.maxDepth T (.bool i) (.bool j)).run P w = .ok (i == j) w := run_equal_bool w T i j hT.h
  simp [execOp, ha.eval hx, ha.eval hy, eqGuard, binOp, Op.equal, hb]
theorem rd_neb {T T' : Nat} {x y : Operand} {i j : Bool} [hT : Bo P T] (hx : ev E x = some (.bool i)) (hy : ev E y = some (.bool j)) :
    RD P W n L E ⟨d, .binOp .neq T x y T', t, pos, after, g⟩ (.bool (!(i == j))) := .mk fun a w ha hw => by
  have hb : (Op.equalIn Op.maxDepth T (.bool i) (.bool j)).run P w = .ok (i == j) w := run_equal_bool w T i j hT.h
  simp [execOp, ha.eval hx, ha.eval hy, eqGuard, binOp, Op.equal, hb]
theorem run_eqnil' {T e : Nat} [hT : Pn P T e] (p : Option Addr) (w : World) (d : Nat) : (Op.equalIn (d + 1) T (.pointer p) (.pointer none)).run P w = .ok p.isNone w := by
  cases p <;> simp [Op.equalIn, run_underlying hT.h]
theorem run_eqnil {T e : Nat} [hT : Pn P T e] (p : Option Addr) (w : World) : (Op.equalIn Op.maxDepth T (.pointer p) (.pointer none)).run P w = .ok p.isNone w := run_eqnil' p w 9999
theorem rd_eqnil {T T' e : Nat} {x : Operand} {p : Option Addr} [hT : Pn P T e] (hx : ev E x = some (.pointer p)) :
    RD P W n L E ⟨d, .binOp .eql T x (.const (.pointer none)) T', t, pos, after, g⟩ (.bool p.isNone) := .mk fun a w ha hw => by
  have hc : a.eval (.const (.pointer none)) = .pointer none := rfl
  simp only [execOp, ha.eval hx, hc]
  simp [eqGuard, binOp, Op.equal, run_eqnil]
theorem rd_nenil {T T' e : Nat} {x : Operand} {p : Option Addr} [hT : Pn P T e] (hx : ev E x = some (.pointer p)) :
    RD P W n L E ⟨d, .binOp .neq T x (.const (.pointer none)) T', t, pos, after, g⟩ (.bool p.isSome) := .mk fun a w ha hw => by
  have hc : a.eval (.const (.pointer none)) = .pointer none := rfl
  simp only [execOp, ha.eval hx, hc]
  cases p <;> simp [eqGuard, binOp, Op.equal, run_eqnil]
/-- '==' and '!=' in general: what the two operations give. -/
theorem rd_bin {op : BinOp} {T T' : Nat} {x y : Operand} {u v r : Value} (hx : ev E x = some u) (hy : ev E y = some v) (hr : ∀ w, ((do eqGuard op T x y u v; binOp op T u v) : Sem Value).run P w = .ok r w) :
    RD P W n L E ⟨d, .binOp op T x y T', t, pos, after, g⟩ r := .mk fun a w ha hw => by
  have h1 := hr w
  simp only [execOp, ha.eval hx, ha.eval hy]
  rw [Sem.run_bind, h1]
  rfl
theorem rd_not {T : Nat} {x : Operand} {b : Bool} (hx : ev E x = some (.bool b)) :
    RD P W n L E ⟨d, .unOp .not T x, t, pos, after, g⟩ (.bool (!b)) := .mk fun a w ha hw => by
  simp [execOp, ha.eval hx, Op.unary]
theorem rd_conv {S T : Nat} {x : Operand} {k k' : IntKind} {i : Int} [hS : Ik P S k'] [hT : Ik P T k] (hx : ev E x = some (.int k' i)) :
    RD P W n L E ⟨d, .convert S T x, t, pos, after, g⟩ (.int k (k.wrap i)) := .mk fun a w ha hw => by
  simp [execOp, ha.eval hx, convert, run_underlying hS.h, run_underlying hT.h, Conv.intToInt]
theorem rd_extract {x : Operand} {i : Nat} {vs : Array Value} {v : Value} (hx : ev E x = some (.tuple vs)) (hv : vs[i]? = some v) :
    RD P W n L E ⟨d, .extract x i, t, pos, after, g⟩ v := .mk fun a w ha hw => by
  simp [execOp, ha.eval hx, Instr.extract, hv]
theorem rd_makeFunc {fn : Fn} {first captured : List Operand} {vs us : List Value} (h1 : evs E first = some vs) (h2 : evs E captured = some us) :
    RD P W n L E ⟨d, .makeFunc fn first.toArray captured.toArray, t, pos, after, g⟩ (.func fn vs.toArray us.toArray) := .mk fun a w ha hw => by
  simp [execOp, Instr.makeFunc, ha.evals h1, ha.evals h2]
theorem rd_field1 {S f off T : Nat} {x : Operand} {cs : Array Value} {v : Value} [hF : Fd P S f off T] [hA : Ta P T false] (hx : ev E x = some (.agg cs)) (hv : cs[off]? = some v) :
    RD P W n L E ⟨d, .field S x f, t, pos, after, g⟩ v := .mk fun a w ha hw => by
  obtain ⟨fs, fd, h1, h2, h3, h4⟩ := hF.h
  have hB := hA.h w
  subst h3; subst h4
  simp [execOp, ha.eval hx, Instr.field, run_underlying h1, h2, asAgg, part, hB, hv]
theorem rd_slice {T e m b o len cap : Nat} {x lo hi : Operand} {k k' : IntKind} {i j : Int} [hT : Sl P T e] [hS : Ts P e m] (hx : ev E x = some (.slice (some ⟨b, o, none⟩) len cap)) (hl : ev E lo = some (.int k i)) (hh : ev E hi = some (.int k' j))
    (h0 : 0 ≤ i) (h1 : i ≤ j) (h2 : j ≤ cap) (h3 : i < cap) :
    RD P W n L E ⟨d, .slice T x (some lo) (some hi) none, t, pos, after, g⟩ (.slice (some ⟨b, o + i.toNat * m, none⟩) (j.toNat - i.toNat) (cap - i.toNat)) := .mk fun a w ha hw => by
  have hB := hS.h w
  have e1 : 0 ≤ j := by omega
  have e2 : ¬ cap = i.toNat := by omega
  have e3 : i ≤ (j.toNat : Int) := by omega
  simp [execOp, ha.eval hx, ha.eval hl, ha.eval hh, Instr.sliceAt, Instr.slice, Instr.sliceBounds, Instr.sliceBound, run_underlying hT.h, asIntOf, hB, h0, h1, h2, e1, e2, e3, add_zero']
  intro hc; omega
theorem rd_sliceLo {T e m b o len cap : Nat} {x lo : Operand} {k : IntKind} {i : Int} [hT : Sl P T e] [hS : Ts P e m] (hx : ev E x = some (.slice (some ⟨b, o, none⟩) len cap)) (hl : ev E lo = some (.int k i))
    (h0 : 0 ≤ i) (h1 : i ≤ len) (h3 : i < cap) :
    RD P W n L E ⟨d, .slice T x (some lo) none none, t, pos, after, g⟩ (.slice (some ⟨b, o + i.toNat * m, none⟩) (len - i.toNat) (cap - i.toNat)) := .mk fun a w ha hw => by
  have hB := hS.h w
  have e2 : ¬ cap = i.toNat := by omega
  simp [execOp, ha.eval hx, ha.eval hl, Instr.sliceAt, Instr.slice, Instr.sliceBounds, Instr.sliceBound, run_underlying hT.h, asIntOf, hB, h0, h1, e2, add_zero']
theorem rd_sliceHi {T e b o len cap m : Nat} {x hi : Operand} {k : IntKind} {j : Int} [hT : Sl P T e] [hS : Ts P e m] (hx : ev E x = some (.slice (some ⟨b, o, none⟩) len cap)) (hh : ev E hi = some (.int k j))
    (h0 : 0 ≤ j) (h2 : j ≤ cap) :
    RD P W n L E ⟨d, .slice T x none (some hi) none, t, pos, after, g⟩ (.slice (some ⟨b, o, none⟩) j.toNat cap) := .mk fun a w ha hw => by
  have hB := hS.h w
  simp [execOp, ha.eval hx, ha.eval hh, Instr.sliceAt, Instr.slice, Instr.sliceBounds, Instr.sliceBound, run_underlying hT.h, asIntOf, hB, h0, h2, add_zero']
end
end Go.Proofs.Ytoolgphkfnkajaa.X
/-
  Words of my own for walks, third part: operations that make or write memory, calls, append, and regions whose order is open. No condition; generic over the program.
-/
namespace Go.Proofs.Ytoolgphkfnkajaa.X
open Go Go.RowKit
set_option linter.unusedVariables false
set_option linter.unusedSimpArgs false

class Inf (P : Program) (T : Nat) (z : outParam Value) (s b : outParam Nat) : Prop where h : ∃ i, P.info? T = some i ∧ i.zero = some z ∧ i.size = s ∧ i.bytes = b ∧ z.cells.size = s
instance {P : Program} {T s b : Nat} {z : Value} [h : Inf P T z s b] : Ts P T s := ⟨fun w => by obtain ⟨i, h1, h2, h3, h4, _⟩ := h.h; simp [sizeOf, typeInfo, h1, h3]⟩
instance {P : Program} {T s b : Nat} {z : Value} [h : Inf P T z s b] : T0 P T z := ⟨fun w => by obtain ⟨i, h1, h2, h3, h4, _⟩ := h.h; simp [zeroValue, typeInfo, h1, h2]⟩

theorem Hp.turnAt {W w w' : World} {b : Nat} {o o' : Obj} {A R : List Blk} (h : Hp W w (A ++ (b, o) :: R)) (hos : w'.os = w.os) (ht : w'.tape = w.tape) (hout : w'.output = w.output)
    (hb : w'.heap[b]? = some o') (hk : ∀ k, k ≠ b → w'.heap[k]? = w.heap[k]?) : Hp W w' (A ++ (b, o') :: R) :=
  ((h.perm List.perm_middle).turn hos ht hout hb hk).perm List.perm_middle.symm
theorem Hp.mid {W w : World} {b : Nat} {o : Obj} {A R : List Blk} (h : Hp W w (A ++ (b, o) :: R)) : w.heap[b]? = some o := h.own (b, o) (by simp)

section
variable {P : Program} {W : World} {n : Nat} {L : List Blk} {E : List (Nat × Value)} {d : Option Nat} {t : TypeId} {pos : String} {after : Array Edge} {g : Option (Nat × Bool)} {K : Value → List Blk → Prop}

theorem ef_of_new {o : Oper} {v : Nat → Value} {ob : Obj} (h : ∀ a w, Env n a E → Hp W w L → (execOp a.eval o).run P w = .ok (.value (v w.heap.size)) { w with heap := w.heap.push ob }) (hk : ∀ r, K (v r) ((r, ob) :: L)) : EF P W n L E o K := by
  refine ⟨fun a w ha hw => ?_⟩
  rw [h a w ha hw]
  exact ⟨_, hw.alloc ob, hk _⟩
theorem ef_rd {o : Oper} {v : Value} (h : RD P W n L E o v) (hk : K v L) : EF P W n L E o K := by
  refine ⟨fun a w ha hw => ?_⟩
  rw [h.run a w ha hw]
  exact ⟨_, hw, hk⟩
theorem ef_alloc {T : Nat} {z : Value} [hT : T0 P T z] (hk : ∀ r, K (.pointer (some ⟨r, 0, none⟩)) ((r, .cells z.cells T (0, 0)) :: L)) : EF P W n L E ⟨d, .alloc T, t, pos, after, g⟩ K :=
  ef_of_new (v := fun r => .pointer (some ⟨r, 0, none⟩)) (fun a w ha hw => by
    have h0 := hT.h w
    simp [execOp, Instr.alloc, h0, newVar, newRow]) hk
theorem ef_box {T : Nat} {x : Operand} {v : Value} (hx : ev E x = some v) (hk : ∀ r, K (.pointer (some ⟨r, 0, none⟩)) ((r, .cells v.cells T (0, 0)) :: L)) : EF P W n L E ⟨d, .box T x, t, pos, after, g⟩ K :=
  ef_of_new (v := fun r => .pointer (some ⟨r, 0, none⟩)) (fun a w ha hw => by
    simp [execOp, Instr.box, ha.eval hx, newVar, newRow]) hk
theorem ef_makeMap {T : Nat} (hk : ∀ r, K (.map (some r)) ((r, .map #[] 0) :: L)) : EF P W n L E ⟨d, .makeMap T none, t, pos, after, g⟩ K :=
  ef_of_new (v := fun r => .map (some r)) (fun a w ha hw => by
    simp [execOp, Instr.makeMap]) hk
/-- One cell is written. -/
theorem ef_store1 (A R : List Blk) {T T' m b i : Nat} {x y : Operand} {u v : Value} {vs : List Value} [hS : Ts P T m] (hx : ev E x = some (.pointer (some ⟨b, i, none⟩))) (hy : ev E y = some v) (h1 : v.oneCell' = true) (hm : m = 1)
    (hL : L = A ++ (b, .cells vs.toArray T' (0, 0)) :: R) (hi : vs[i]? = some u) (hk : K undef (A ++ (b, .cells (vs.set i v).toArray T' (0, 0)) :: R)) : EF P W n L E ⟨d, .store T x y, t, pos, after, g⟩ K := by
  refine ⟨fun a w ha hw => ?_⟩
  subst hm
  rw [← List.setIfInBounds_toArray] at hk
  obtain ⟨cs, hcs⟩ : ∃ cs : Array Value, cs = vs.toArray := ⟨_, rfl⟩
  have hi : cs[i]? = some u := by rw [hcs]; simpa using hi
  rw [← hcs] at hL hk
  have hB := hS.h w
  subst hL
  have hc : w.cell? ⟨b, i, none⟩ = some u := by simp [World.cell?, hw.mid, hi]
  have hf : w.frozen? ⟨b, i, none⟩ = false := by simp [World.frozen?, hw.mid]
  have hcl : v.cells = #[v] := by cases v <;> first | rfl | cases h1
  have hadd : (⟨b, i, none⟩ : Addr).add 0 = ⟨b, i, none⟩ := rfl
  have hst := run_store P w ⟨b, i, none⟩ v .plain h1
  rw [hc] at hst
  simp only [hf] at hst
  have hrun : (execOp a.eval ⟨d, .store T x y, t, pos, after, g⟩).run P w = .ok .skip (w.setCell ⟨b, i, none⟩ v) := by
    simp only [execOp, ha.eval hx, ha.eval hy, Instr.storeAt, Instr.sureAddr, storeVar, hcl, Sem.run_bind, Sem.run_pure, Result.andThen_ok, hB]
    simp only [storeCells, hadd, Sem.run_bind, hst]
    simp [storeCells]
    rw [hst]; simp [storeCells]
  rw [hrun, setCell_eq_setRow w b i cs T' (0, 0) v hw.mid]
  exact ⟨_, hw.turnAt rfl rfl rfl (setRow_heap w b cs _ T' (0, 0) hw.mid) (fun k hk => setRow_other w b k _ hk), hk⟩
/-- A value of several cells is written. -/
theorem ef_storeN (A R : List Blk) {T T' m b i : Nat} {x y : Operand} {vs : List Value} {cs : Array Value} [hS : Ts P T m] (hx : ev E x = some (.pointer (some ⟨b, i, none⟩))) (hy : ev E y = some (.agg vs.toArray)) (h1a : vs.all (·.oneCell') = true) (hm : vs.length = m)
    (hL : L = A ++ (b, .cells cs T' (0, 0)) :: R) (hi : i + m ≤ cs.size) (hk : K undef (A ++ (b, .cells (cs.toList.take i ++ vs ++ cs.toList.drop (i + vs.length)).toArray T' (0, 0)) :: R)) : EF P W n L E ⟨d, .store T x y, t, pos, after, g⟩ K := by
  have h1 : ∀ v ∈ vs, v.oneCell' = true := List.all_eq_true.1 h1a
  refine ⟨fun a w ha hw => ?_⟩
  have hB := hS.h w
  subst hL
  subst hm
  have hst := run_storeCells_at P b i T' vs 0 cs w hw.mid (by omega) h1
  simp only [Nat.add_zero] at hst
  have hrun : (execOp a.eval ⟨d, .store T x y, t, pos, after, g⟩).run P w = .ok .skip (w.setRow b (cs.toList.take i ++ vs ++ cs.toList.drop (i + vs.length)).toArray) := by
    simp only [execOp, ha.eval hx, ha.eval hy, Instr.storeAt, Instr.sureAddr, storeVar, Value.cells, Sem.run_bind, Sem.run_pure, Result.andThen_ok, hB]
    simp [hst]
  rw [hrun]
  exact ⟨_, hw.turnAt rfl rfl rfl (setRow_heap w b cs _ T' (0, 0) hw.mid) (fun k hk => setRow_other w b k _ hk), hk⟩
/-- A whole block is written. -/
theorem ef_storeB (A R : List Blk) {T T' m b : Nat} {x y : Operand} {vs : List Value} {cs : Array Value} [hS : Ts P T m] (hx : ev E x = some (.pointer (some ⟨b, 0, none⟩))) (hy : ev E y = some (.agg vs.toArray)) (h1 : vs.all (·.oneCell') = true) (hm : vs.length = m)
    (hL : L = A ++ (b, .cells cs T' (0, 0)) :: R) (hi : cs.size = m) (hk : K undef (A ++ (b, .cells vs.toArray T' (0, 0)) :: R)) : EF P W n L E ⟨d, .store T x y, t, pos, after, g⟩ K :=
  ef_storeN A R hx hy h1 hm hL (by omega) (by
    have : (cs.toList.take 0 ++ vs ++ cs.toList.drop (0 + vs.length)) = vs := by
      rw [List.take_zero, List.nil_append, List.drop_of_length_le (by simp; omega), List.append_nil]
    rw [this]; exact hk)
theorem ef_buildSlice {T len : Nat} {parts : Array (Nat × Operand)} {e s : Nat} {z : Value} {vs : Array (Nat × Value)} {cells : Array Value} [hT : Sl P T e] [hS : Ts P e s] [h0 : T0 P e z] (hp : ∀ a, Env n a E → parts.map (fun (i, x) => (i, a.eval x)) = vs) (hlen : len * s ≤ 16777216) (hpos : len * s ≠ 0)
    (hf : Instr.fill (fun i => some (i * s, s)) ((Array.range (len * s)).map (z.cells[· % z.cells.size]!)) vs.toList = some cells)
    (hk : ∀ r, K (.slice (some ⟨r, 0, none⟩) len len) ((r, .cells cells e (0, 0)) :: L)) : EF P W n L E ⟨d, .buildSlice T len parts, t, pos, after, g⟩ K :=
  ef_of_new (v := fun r => .slice (some ⟨r, 0, none⟩) len len) (fun a w ha hw => by
    have hB := hS.h w
    have hz := h0.h w
    have hlt : ¬ (16777216 < len * s) := by omega
    have hpp := hp a ha
    simp only [execOp, hpp]
    simp [Instr.buildSlice, run_underlying hT.h, hB, hz, hpos, hlt, hf, newRow]) hk
/-- One element of one cell. -/
theorem ef_slice1 {T : Nat} {x : Operand} {e b : Nat} {z v : Value} [hT : Sl P T e] [hI : Inf P e z 1 b] (hx : ev E x = some v) (h1 : v.oneCell' = true) (hz1 : z.cells.size = 1)
    (hk : ∀ r, K (.slice (some ⟨r, 0, none⟩) 1 1) ((r, .cells #[v] e (0, 0)) :: L)) : EF P W n L E ⟨d, .buildSlice T 1 #[(0, x)], t, pos, after, g⟩ K :=
  ef_buildSlice (T := T) (s := 1) (z := z) (vs := #[(0, v)]) (cells := #[v]) (fun a ha => by simp [ha.eval hx]) (by decide) (by decide) (by
    have hcl : v.cells = #[v] := by cases v <;> first | rfl | cases h1
    have hr : (Array.range (1 * 1)).map (z.cells[· % z.cells.size]!) = #[z.cells[0 % z.cells.size]!] := by
      apply Array.toList_inj.1
      simp [Array.toList_range, List.range_succ]
    rw [hr]
    simp [Instr.fill, hcl]) hk
/-- One element, a struct. -/
theorem ef_sliceA {T : Nat} {x : Operand} {e b s : Nat} {z : Value} {vs : List Value} [hT : Sl P T e] [hI : Inf P e z s b] (hx : ev E x = some (.agg vs.toArray)) (hvs : vs.length = s) (hs0 : s ≠ 0) (hs1 : s ≤ 1000)
    (hk : ∀ r, K (.slice (some ⟨r, 0, none⟩) 1 1) ((r, .cells vs.toArray e (0, 0)) :: L)) : EF P W n L E ⟨d, .buildSlice T 1 #[(0, x)], t, pos, after, g⟩ K :=
  ef_buildSlice (T := T) (s := s) (z := z) (vs := #[(0, .agg vs.toArray)]) (cells := vs.toArray) (fun a ha => by simp [ha.eval hx]) (by omega) (by omega) (by
    subst hvs
    have hcv : (Value.agg vs.toArray).cells = vs.toArray := rfl
    simp only [Instr.fill, hcv, List.size_toArray, ne_eq, not_true_eq_false, Nat.zero_mul, Nat.zero_add, Nat.one_mul, Array.size_map, Array.size_range, Nat.lt_irrefl, gt_iff_lt, decide_false, Bool.or_self, Bool.false_eq_true, if_false]
    congr 1
    have key : ∀ (l : List Value) (k : Nat) (acc : Array Value), k + l.length = acc.size → (l.zipIdx k).foldl (fun cs (c, j) => cs.setIfInBounds j c) acc = (acc.toList.take k ++ l).toArray := by
      intro l
      induction l with
      | nil =>
        intro k acc hk
        simp only [List.zipIdx_nil, List.foldl_nil, List.append_nil]
        rw [List.take_of_length_le (by simp at hk ⊢; omega)]
      | cons v l ih =>
        intro k acc hk
        simp only [List.zipIdx_cons, List.foldl_cons]
        rw [ih (k + 1) _ (by simp at hk ⊢; omega)]
        have hkl : k < acc.size := by simp at hk; omega
        congr 1
        apply List.ext_getElem?
        intro j
        simp only [Array.toList_setIfInBounds, List.getElem?_append, List.length_take, List.length_set, Array.length_toList, List.getElem?_take, List.getElem?_set, List.getElem?_cons]
        by_cases h1 : j < k
        · have e1 : j < k + 1 := by omega
          have e2 : k ≠ j := by omega
          simp [h1, e1, e2, show min (k + 1) acc.size = k + 1 by omega, show min k acc.size = k by omega]
        · by_cases h2 : j = k
          · subst h2
            simp [hkl, show min (j + 1) acc.size = j + 1 by omega, show min j acc.size = j by omega]
          · have e1 : ¬ j < k + 1 := by omega
            have e3 : j - k = (j - (k + 1)) + 1 := by omega
            simp [h1, e1, e3, show min (k + 1) acc.size = k + 1 by omega, show min k acc.size = k by omega]
    have := key vs 0 ((Array.range vs.length).map ((Value.cells z)[· % (Value.cells z).size]!)) (by simp)
    generalize (Array.range vs.length).map ((Value.cells z)[· % (Value.cells z).size]!) = zc at this ⊢
    simpa using this) hk
theorem ef_call {f : Nat} {args : List Operand} {ts : Array TypeId} {vs : List Value} [hC : Cf P f] (h : evs E args = some vs) (hf : XF P W f vs.toArray L K) :
    EF P W n L E ⟨d, .call ⟨.value (.func f), args.toArray, ts⟩, t, pos, after, g⟩ K := by
  refine ⟨fun a w ha hw => ?_⟩
  have hc := hC.h vs.toArray w
  have he := ha.evals h
  have hrun : (execOp a.eval ⟨d, .call ⟨.value (.func f), args.toArray, ts⟩, t, pos, after, g⟩).run P w = .ok (.enter f vs.toArray) w := by
    have hv : a.eval (.func f) = .func (.func f) #[] #[] := rfl
    simp only [execOp, resolve, hv]
    simp [Deferred.ofValue, invoke, he]
    simpa using hc
  rw [hrun]
  exact Calls.mono (hf.run w hw) fun e w'' ⟨v, h1, L', h2, h3⟩ => ⟨v, h1, L', h2, h3⟩
theorem ef_callv {f : Nat} {x : Operand} {args : List Operand} {ts : Array TypeId} {vs first cap : List Value} [hC : Cf P f] (hx : ev E x = some (.func (.func f) first.toArray cap.toArray)) (h : evs E args = some vs) (hf : XF P W f (first ++ vs ++ cap).toArray L K) :
    EF P W n L E ⟨d, .call ⟨.value x, args.toArray, ts⟩, t, pos, after, g⟩ K := by
  refine ⟨fun a w ha hw => ?_⟩
  have hc := hC.h (first ++ vs ++ cap).toArray w
  have he := ha.evals h
  have hrun : (execOp a.eval ⟨d, .call ⟨.value x, args.toArray, ts⟩, t, pos, after, g⟩).run P w = .ok (.enter f (first ++ vs ++ cap).toArray) w := by
    simp only [execOp, resolve, ha.eval hx]
    simp [Deferred.ofValue, invoke, he]
    simpa using hc
  rw [hrun]
  exact Calls.mono (hf.run w hw) fun e w'' ⟨v, h1, L', h2, h3⟩ => ⟨v, h1, L', h2, h3⟩
end

/-! ### slices of one's own that grow -/
/-- The value v is a slice of m elements, of s cells each (the cells xs), in memory of one's own (the blocks l). -/
def SlO (s : Nat) (e : TypeId) (v : Value) (m : Nat) (xs : List Value) (l : List Blk) : Prop :=
  (v = .slice none 0 0 ∧ m = 0 ∧ xs = [] ∧ l = []) ∨
  ∃ b cs cap, v = .slice (some ⟨b, 0, none⟩) m cap ∧ l = [(b, .cells cs e (0, 0))] ∧ m ≤ cap ∧ cs.size = cap * s ∧ cs.toList.take (m * s) = xs
theorem SlO.nil {s : Nat} {e : TypeId} : SlO s e (.slice none 0 0) 0 [] [] := .inl ⟨rfl, rfl, rfl, rfl⟩
theorem SlO.len {s : Nat} {e : TypeId} {v : Value} {m : Nat} {xs : List Value} {l : List Blk} (h : SlO s e v m xs l) : xs.length = m * s := by
  rcases h with ⟨_, rfl, rfl, _⟩ | ⟨b, cs, cap, _, _, h1, h2, rfl⟩
  · simp
  · rw [List.length_take, Array.length_toList, h2]
    exact Nat.min_eq_left (Nat.mul_le_mul_right _ h1)
theorem SlO.val {s : Nat} {e : TypeId} {v : Value} {m : Nat} {xs : List Value} {l : List Blk} (h : SlO s e v m xs l) : ∃ p c, v = .slice p m c := by
  rcases h with ⟨h, rfl, _⟩ | ⟨b, cs, cap, h, _⟩
  · exact ⟨_, _, h⟩
  · exact ⟨_, _, h⟩
/-- What the source of an append tells. -/
def Rs (W : World) (L : List Blk) (p : Option Addr) (news : List Value) : Prop := ∀ j u, news[j]? = some u → ∃ b o, p = some ⟨b, o, none⟩ ∧ Cl W L b (o + j) u
theorem Rs.nil {W : World} {L : List Blk} {p : Option Addr} : Rs W L p [] := fun j u h => by cases h
theorem SlO.rs {W : World} {L : List Blk} {s : Nat} {e : TypeId} {p : Option Addr} {m c : Nat} {xs : List Value} {l : List Blk} (h : SlO s e (.slice p m c) m xs l) (hl : ∀ q, q ∈ l → q ∈ L) : Rs W L p xs := by
  rcases h with ⟨_, _, rfl, _⟩ | ⟨b, cs, cap, h, rfl, h1, h2, rfl⟩
  · exact Rs.nil
  · intro j u hj
    simp only [Value.slice.injEq] at h
    refine ⟨b, 0, h.1, Cl.own (cs := cs) (T := e) (fr := (0, 0)) (hl _ (by simp)) ?_⟩
    rw [List.getElem?_take] at hj
    split at hj
    · simpa using hj
    · cases hj
section
variable {P : Program} {W : World} {n : Nat} {L : List Blk} {E : List (Nat × Value)} {d : Option Nat} {t : TypeId} {pos : String} {after : Array Edge} {g : Option (Nat × Bool)} {K : Value → List Blk → Prop}
theorem run_append_zero {T ty e s : Nat} [hT : Sl P T e] [hS : Ts P e s] (p q : Option Addr) (m cap c : Nat) (w : World) (hm : m ≤ cap) :
    (Builtin.append_ #[T, T] ty #[.slice p m cap, .slice q 0 c]).run P w = .ok (.slice p m cap) w := by
  have hB := hS.h w
  cases p <;> cases q <;> simp [Builtin.append_, run_underlying hT.h, hB, Builtin.lenOf, hm, Builtin.firstCells, loadCells, loadCellsFrom, storeCells]
theorem ef_append (A R l : List Blk) {T e s bt : Nat} {z : Value} {x y : Operand} {v : Value} {m k c : Nat} {p : Option Addr} {xs news : List Value} [hT : Sl P T e] [hI : Inf P e z s bt]
    (hx : ev E x = some v) (hy : ev E y = some (.slice p k c)) (hO : SlO s e v m xs l) (hL : L = A ++ (l ++ R)) (hsrc : Rs W L p news) (hk : news.length = k * s) (h1a : news.all (·.oneCell') = true) (hs : 0 < s)
    (hfit : (m + k) * bt ≤ 140737488355328) (hsm : m + k ≤ 9223372036854775807) (hK : ∀ v' l', SlO s e v' (m + k) (xs ++ news) l' → K v' (A ++ (l' ++ R))) :
    EF P W n L E ⟨d, .call ⟨.builtin .append, #[x, y], #[T, T]⟩, t, pos, after, g⟩ K := by
  have h1 : ∀ u ∈ news, u.oneCell' = true := List.all_eq_true.1 h1a
  refine ⟨fun a w ha hw => ?_⟩
  have hrun : (execOp a.eval ⟨d, .call ⟨.builtin .append, #[x, y], #[T, T]⟩, t, pos, after, g⟩).run P w = ((Builtin.append_ #[T, T] t #[v, .slice p k c]).run P w).andThen fun v w => .ok (.value v) w := by
    simp [execOp, resolve, invoke, builtin, ha.eval hx, ha.eval hy]
  rw [hrun]
  obtain ⟨i, hi1, hi2, hi3, hi4, hzz⟩ := hI.h
  subst hi3; subst hi4
  by_cases hk0 : k = 0
  · subst hk0
    have hn : news = [] := List.eq_nil_of_length_eq_zero (by simpa using hk)
    subst hn
    obtain ⟨q, c', rfl⟩ := hO.val
    have hmc : m ≤ c' := by
      rcases hO with ⟨h, rfl, _⟩ | ⟨b, cs, cap, h, _, h1, _⟩
      · omega
      · simp only [Value.slice.injEq] at h; omega
    rw [run_append_zero q p m c' c w hmc]
    refine ⟨_, hw, ?_⟩
    rw [hL]
    exact hK _ _ (by simpa using hO)
  · have hpos : 0 < news.length := by rw [hk]; exact Nat.mul_pos (by omega) hs
    obtain ⟨b0, o0, hp, _⟩ := hsrc 0 _ (List.getElem?_eq_getElem hpos)
    subst hp
    have hnews : ∀ (w' : World), Hp W w' L → ∀ j u, news[j]? = some u → w'.cell? ((⟨b0, o0, none⟩ : Addr).add j) = some u := fun w' hw' j u hj => by
      obtain ⟨b, o, hbo, hc⟩ := hsrc j u hj
      simp only [Option.some.injEq, Addr.mk.injEq] at hbo
      obtain ⟨rfl, rfl, _⟩ := hbo
      rw [add_zero']; exact hc.get hw'
    rcases hO with ⟨rfl, rfl, rfl, rfl⟩ | ⟨b, cs, cap, rfl, rfl, hmc, hcs, htk⟩
    · have hr := run_append_nil (P := P) w T t e i z hT.h hi1 hi2 ⟨b0, o0, none⟩ k c news hk (hnews w hw) (by omega) (by omega) (by have := hfit; simp only [Nat.zero_add] at this; omega)
      rw [hr]
      have hge := grownCap_ge w k 0 e
      refine ⟨_, (hw.drew.alloc _).perm ?_, hK _ [(w.heap.size, .cells (news.toArray ++ Builtin.zeroCells z.cells (grownCap w k 0 e - k)) e (0, 0))] (.inr ⟨w.heap.size, _, grownCap w k 0 e, ?_, rfl, by omega, ?_, ?_⟩)⟩
      · rw [hL]
        simp only [List.nil_append, List.singleton_append]
        exact List.perm_middle.symm
      · simp
      · simp only [Array.size_append, List.size_toArray, size_zeroCells, hk]
        rw [hzz, ← Nat.add_mul]
        congr 1
        omega
      · simp only [Array.toList_append, Nat.zero_add, List.nil_append]
        rw [← hk]; exact List.take_left
    · by_cases hroom : m + k ≤ cap
      · have hlen : (cs.toList.take (m * i.size)).length = m * i.size := by
          rw [List.length_take, Array.length_toList, hcs]; exact Nat.min_eq_left (Nat.mul_le_mul_right _ hmc)
        have hfit' : m * i.size + news.length ≤ cs.size := by rw [hk, hcs, ← Nat.add_mul]; exact Nat.mul_le_mul_right _ hroom
        have hw2 := hw
        rw [hL] at hw2
        have hr := run_append_room (P := P) w T t e i hT.h hi1 b m cap cs hw2.mid ⟨b0, o0, none⟩ k c news hk (hnews w hw) h1 hroom hfit'
        rw [hr]
        refine ⟨_, hw2.turnAt rfl rfl rfl (setRow_heap w b cs _ e (0, 0) hw2.mid) (fun q hq => setRow_other w b q _ hq), hK _ [(b, .cells (cs.toList.take (m * i.size) ++ news ++ cs.toList.drop (m * i.size + news.length)).toArray e (0, 0))] (.inr ⟨b, _, cap, rfl, rfl, hroom, ?_, ?_⟩)⟩
        · simp only [List.size_toArray, List.length_append, List.length_take, List.length_drop, Array.length_toList]
          omega
        · have : (m + k) * i.size = (xs ++ news).length := by rw [List.length_append, ← htk, hlen, hk, Nat.add_mul]
          rw [this, ← htk]
          exact List.take_left
      · have hlen : xs.length = m * i.size := by
          rw [← htk, List.length_take, Array.length_toList, hcs]; exact Nat.min_eq_left (Nat.mul_le_mul_right _ hmc)
        have hw2 := hw
        rw [hL] at hw2
        have holds : ∀ j u, xs[j]? = some u → w.cell? ((⟨b, 0, none⟩ : Addr).add j) = some u := fun j u hj => by
          rw [add_zero']
          rw [← htk, List.getElem?_take] at hj
          split at hj
          · simp [World.cell?, hw2.mid]; simpa using hj
          · cases hj
        have hr := run_append_grow (P := P) w T t e i z hT.h hi1 hi2 ⟨b, 0, none⟩ m cap xs hlen holds ⟨b0, o0, none⟩ k c news hk (hnews w hw) (by omega) (by omega) (growslice_fits (by omega) hfit)
        rw [hr]
        have hge := grownCap_ge w (m + k) cap e
        refine ⟨_, ((hw2.drew.alloc _).sub (L' := (w.heap.size, .cells (xs.toArray ++ news.toArray ++ Builtin.zeroCells z.cells (grownCap w (m + k) cap e - (m + k))) e (0, 0)) :: (A ++ R)) ?_).perm ?_, hK _ [(w.heap.size, .cells (xs.toArray ++ news.toArray ++ Builtin.zeroCells z.cells (grownCap w (m + k) cap e - (m + k))) e (0, 0))] (.inr ⟨w.heap.size, _, grownCap w (m + k) cap e, rfl, rfl, by omega, ?_, ?_⟩)⟩
        · refine List.Sublist.cons_cons _ ?_
          exact (List.Sublist.refl A).append (by simp)
        · simp only [List.singleton_append]
          exact List.perm_middle.symm
        · simp only [Array.size_append, List.size_toArray, size_zeroCells, hk, hlen]
          rw [hzz, ← Nat.add_mul, ← Nat.add_mul]
          congr 1
          omega
        · have : (m + k) * i.size = (xs ++ news).length := by rw [List.length_append, hlen, hk, Nat.add_mul]
          rw [this]
          simp only [Array.toList_append, List.append_assoc]
          rw [← List.append_assoc]
          exact List.take_left
end
end Go.Proofs.Ytoolgphkfnkajaa.X
/-
  Words of my own for walks, fourth part: a region whose order is open: reads may be taken as soon as they may come up; what writes or calls comes alone. No condition; generic over the program.
-/
namespace Go.Proofs.Ytoolgphkfnkajaa.X
open Go Go.RowKit
set_option linter.unusedVariables false

class Mx (P : Program) : Prop where h : P.follows .mixedOrders = true
/-- M is among L. -/
def Sb (M L : List Blk) : Prop := ∃ R, L.Perm (M ++ R)
theorem Sb.hp {W w : World} {M L : List Blk} (h : Sb M L) (hw : Hp W w L) : Hp W w M := by
  obtain ⟨R, hp⟩ := h
  exact (hw.perm hp).sub (List.sublist_append_left M R)
theorem Sb.nil {L : List Blk} : Sb [] L := ⟨L, by simp⟩
theorem Sb.refl {L : List Blk} : Sb L L := ⟨[], by simp⟩
theorem Sb.cons {p : Blk} {M L : List Blk} (h : Sb M L) : Sb M (p :: L) := by
  obtain ⟨R, hp⟩ := h
  exact ⟨p :: R, (hp.cons p).trans List.perm_middle.symm⟩
theorem Sb.keep {p : Blk} {M L : List Blk} (h : Sb M L) : Sb (p :: M) (p :: L) := by
  obtain ⟨R, hp⟩ := h
  exact ⟨R, hp.cons p⟩
theorem Sb.app {A M L : List Blk} (h : Sb M L) : Sb M (A ++ L) := by
  obtain ⟨R, hp⟩ := h
  exact ⟨A ++ R, ((List.Perm.refl A).append hp).trans (by rw [← List.append_assoc, ← List.append_assoc]; exact List.perm_append_comm.append_right R)⟩
theorem Sb.keepApp {A M L : List Blk} (h : Sb M L) : Sb (A ++ M) (A ++ L) := by
  obtain ⟨R, hp⟩ := h
  exact ⟨R, ((List.Perm.refl A).append hp).trans (by rw [List.append_assoc])⟩

structure XR (P : Program) (W : World) (n : Nat) (ops : Array Oper) (Q : Exit → Act → World → Prop) (M : List Blk) (fuel : Nat) (listed : Array Bool) (L : List Blk) (E : List (Nat × Value)) : Prop where
  run : ∀ a w, Env n a E → Hp W w L → wpAnyH P .any ops (NoPanic Q) (fun w => Hp W w M) fuel listed a w

section
variable {P : Program} {W : World} {n : Nat} {ops : Array Oper} {Q : Exit → Act → World → Prop} {M L : List Blk} {fuel : Nat} {listed : Array Bool} {E : List (Nat × Value)}
theorem xc_draw (M : List Blk) {id : Nat} [hm : Mx P] (h : XR P W n ops Q M ops.size (Array.replicate ops.size false) L E) : XC P W n (.region id ops true) Q L E := .mk fun a w ha hw =>
  wp_region_noPanic (wp_region_held hm.h (h.run a _ ha hw.drew))
theorem xr_take (i : Nat) {d : Option Nat} {op : Op} {t : TypeId} {pos : String} {after : Array Edge} {v : Value} (hi : ops[i]? = some ⟨d, op, t, pos, after, none⟩)
    (hs : Region.noSelect ops = true) (hf : Region.free .any ops listed i = true) (hr : (Region.ready .any ops listed).contains i = true) (hM : Sb M L)
    (hv : RD P W n M E ⟨d, op, t, pos, after, none⟩ v) (hd : okd n d = true) (h : XR P W n ops Q M fuel (listed.setIfInBounds i true) L (pt E d v)) : XR P W n ops Q M (fuel + 1) listed L E := .mk fun a w ha hw =>
  wpAnyH_take (v := v) hi hs hf hr (fun c a w hq => hq) (.inl ⟨rfl, fun w' hw' => hv.run a w' ha hw'⟩) (hM.hp hw) (h.run _ w (ha.pt d v hd) hw)
theorem xr_gtake (i : Nat) {d : Option Nat} {op : Op} {t : TypeId} {pos : String} {after : Array Edge} {v : Value} {g gt : Nat} {b : Bool} (hi : ops[i]? = some ⟨d, op, t, pos, after, some (g, b)⟩)
    (hs : Region.noSelect ops = true) (hf : Region.free .any ops listed i = true) (hr : (Region.ready .any ops listed).contains i = true) (hM : Sb M L)
    (hg : (ops[g]?).bind (·.dst) = some gt) (ht : lk E gt = some (.bool b))
    (hv : RD P W n M E ⟨d, op, t, pos, after, some (g, b)⟩ v) (hd : okd n d = true) (h : XR P W n ops Q M fuel (listed.setIfInBounds i true) L (pt E d v)) : XR P W n ops Q M (fuel + 1) listed L E := .mk fun a w ha hw =>
  wpAnyH_take (v := v) hi hs hf hr (fun c a w hq => hq) (.inl ⟨by simp [Region.wanted, yielded_of (ops := ops) ha hg ht], fun w' hw' => hv.run a w' ha hw'⟩) (hM.hp hw) (h.run _ w (ha.pt d v hd) hw)
theorem xr_gskip (i : Nat) {d : Option Nat} {op : Op} {t : TypeId} {pos : String} {after : Array Edge} {g gt : Nat} {b c : Bool} (hi : ops[i]? = some ⟨d, op, t, pos, after, some (g, b)⟩)
    (hs : Region.noSelect ops = true) (hf : Region.free .any ops listed i = true) (hr : (Region.ready .any ops listed).contains i = true) (hM : Sb M L)
    (hg : (ops[g]?).bind (·.dst) = some gt) (ht : lk E gt = some (.bool c)) (hc : (c == b) = false)
    (hd : okd n d = true) (h : XR P W n ops Q M fuel (listed.setIfInBounds i true) L (pt E d undef)) : XR P W n ops Q M (fuel + 1) listed L E := .mk fun a w ha hw =>
  wpAnyH_take (v := undef) hi hs hf hr (fun c a w hq => hq) (.inr ⟨by simpa [Region.wanted, yielded_of (ops := ops) ha hg ht] using hc, rfl⟩) (hM.hp hw) (h.run _ w (ha.pt d undef hd) hw)
theorem xr_one (i : Nat) {d : Option Nat} {op : Op} {t : TypeId} {pos : String} {after : Array Edge} (hi : ops[i]? = some ⟨d, op, t, pos, after, none⟩)
    (hr : Region.ready .any ops listed = [i]) (hd : okd n d = true)
    (hv : EF P W n L E ⟨d, op, t, pos, after, none⟩ (fun v L' => Sb M L' ∧ XR P W n ops Q M fuel (listed.setIfInBounds i true) L' (pt E d v))) : XR P W n ops Q M (fuel + 1) listed L E := .mk fun a w ha hw => by
  refine wpAnyH_all hr (by simp) fun j hj => ?_
  obtain rfl : j = i := by simpa using hj
  unfold wpOp
  simp only [hi, Region.wanted, if_true]
  refine .inl ?_
  unfold Oper.wp
  exact effUp.upon (hv.run a w ha hw) fun v w' ⟨L', h1, h2, h3⟩ => ⟨h2.hp h1, h3.run _ _ (ha.pt d v hd) h1⟩
theorem xr_gone (i : Nat) {d : Option Nat} {op : Op} {t : TypeId} {pos : String} {after : Array Edge} {g gt : Nat} {b : Bool} (hi : ops[i]? = some ⟨d, op, t, pos, after, some (g, b)⟩)
    (hr : Region.ready .any ops listed = [i]) (hd : okd n d = true) (hg : (ops[g]?).bind (·.dst) = some gt) (ht : lk E gt = some (.bool b))
    (hv : EF P W n L E ⟨d, op, t, pos, after, some (g, b)⟩ (fun v L' => Sb M L' ∧ XR P W n ops Q M fuel (listed.setIfInBounds i true) L' (pt E d v))) : XR P W n ops Q M (fuel + 1) listed L E := .mk fun a w ha hw => by
  refine wpAnyH_all hr (by simp) fun j hj => ?_
  obtain rfl : j = i := by simpa using hj
  unfold wpOp
  simp only [hi, Region.wanted, yielded_of (ops := ops) ha hg ht, beq_self_eq_true, if_true]
  refine .inl ?_
  unfold Oper.wp
  exact effUp.upon (hv.run a w ha hw) fun v w' ⟨L', h1, h2, h3⟩ => ⟨h2.hp h1, h3.run _ _ (ha.pt d v hd) h1⟩
theorem xr_done (hr : Region.ready .any ops listed = []) (h : XQ W n Q .normal L E) : XR P W n ops Q M fuel listed L E := .mk fun a w ha hw =>
  wpAnyH_done (Q := NoPanic Q) hr (h.run a w ha hw) fuel
theorem xr_split (t : Nat) {b : Bool} (ht : lk E t = some (.bool b)) (h1 : b = true → XR P W n ops Q M fuel listed L ((t, .bool true) :: E)) (h2 : b = false → XR P W n ops Q M fuel listed L ((t, .bool false) :: E)) : XR P W n ops Q M fuel listed L E := by
  refine ⟨fun a w ha hw => ?_⟩
  have hk : ∀ c, b = c → Env n a ((t, .bool c) :: E) := fun c hc => ha.keep (keep_cons (by rw [ht, hc]) (fun _ _ h => h))
  cases hb : b
  · exact (h2 hb).run a w (hk _ hb) hw
  · exact (h1 hb).run a w (hk _ hb) hw
end
end Go.Proofs.Ytoolgphkfnkajaa.X
/-
  Words of my own for walks, fifth part: places in a list of blocks, sums that fit, tests. No condition; generic over the program.
-/
namespace Go.Proofs.Ytoolgphkfnkajaa.X
open Go Go.RowKit
set_option linter.unusedVariables false
set_option linter.unusedSimpArgs false

theorem Cl.o0 {W : World} {b i : Nat} {vs : List Value} {T : TypeId} {fr : Nat × Nat} {R : List Blk} {v : Value} (h : vs[i]? = some v) : Cl W ((b, .cells vs.toArray T fr) :: R) b i v := Cl.own (List.Mem.head _) (by simpa using h)
theorem Kn.o0 {W : World} {b : Nat} {o : Obj} {R : List Blk} : Kn W ((b, o) :: R) b o := .inr (List.Mem.head _)
theorem Cl.o1 {W : World} {p0 : Blk} {b i : Nat} {vs : List Value} {T : TypeId} {fr : Nat × Nat} {R : List Blk} {v : Value} (h : vs[i]? = some v) : Cl W (p0 :: (b, .cells vs.toArray T fr) :: R) b i v := Cl.own (List.Mem.tail _ (List.Mem.head _)) (by simpa using h)
theorem Kn.o1 {W : World} {p0 : Blk} {b : Nat} {o : Obj} {R : List Blk} : Kn W (p0 :: (b, o) :: R) b o := .inr (List.Mem.tail _ (List.Mem.head _))
theorem Cl.o2 {W : World} {p0 p1 : Blk} {b i : Nat} {vs : List Value} {T : TypeId} {fr : Nat × Nat} {R : List Blk} {v : Value} (h : vs[i]? = some v) : Cl W (p0 :: p1 :: (b, .cells vs.toArray T fr) :: R) b i v := Cl.own (List.Mem.tail _ (List.Mem.tail _ (List.Mem.head _))) (by simpa using h)
theorem Kn.o2 {W : World} {p0 p1 : Blk} {b : Nat} {o : Obj} {R : List Blk} : Kn W (p0 :: p1 :: (b, o) :: R) b o := .inr (List.Mem.tail _ (List.Mem.tail _ (List.Mem.head _)))
theorem Cl.o3 {W : World} {p0 p1 p2 : Blk} {b i : Nat} {vs : List Value} {T : TypeId} {fr : Nat × Nat} {R : List Blk} {v : Value} (h : vs[i]? = some v) : Cl W (p0 :: p1 :: p2 :: (b, .cells vs.toArray T fr) :: R) b i v := Cl.own (List.Mem.tail _ (List.Mem.tail _ (List.Mem.tail _ (List.Mem.head _)))) (by simpa using h)
theorem Kn.o3 {W : World} {p0 p1 p2 : Blk} {b : Nat} {o : Obj} {R : List Blk} : Kn W (p0 :: p1 :: p2 :: (b, o) :: R) b o := .inr (List.Mem.tail _ (List.Mem.tail _ (List.Mem.tail _ (List.Mem.head _))))
theorem Cl.o4 {W : World} {p0 p1 p2 p3 : Blk} {b i : Nat} {vs : List Value} {T : TypeId} {fr : Nat × Nat} {R : List Blk} {v : Value} (h : vs[i]? = some v) : Cl W (p0 :: p1 :: p2 :: p3 :: (b, .cells vs.toArray T fr) :: R) b i v := Cl.own (List.Mem.tail _ (List.Mem.tail _ (List.Mem.tail _ (List.Mem.tail _ (List.Mem.head _))))) (by simpa using h)
theorem Kn.o4 {W : World} {p0 p1 p2 p3 : Blk} {b : Nat} {o : Obj} {R : List Blk} : Kn W (p0 :: p1 :: p2 :: p3 :: (b, o) :: R) b o := .inr (List.Mem.tail _ (List.Mem.tail _ (List.Mem.tail _ (List.Mem.tail _ (List.Mem.head _)))))
theorem Cl.o5 {W : World} {p0 p1 p2 p3 p4 : Blk} {b i : Nat} {vs : List Value} {T : TypeId} {fr : Nat × Nat} {R : List Blk} {v : Value} (h : vs[i]? = some v) : Cl W (p0 :: p1 :: p2 :: p3 :: p4 :: (b, .cells vs.toArray T fr) :: R) b i v := Cl.own (List.Mem.tail _ (List.Mem.tail _ (List.Mem.tail _ (List.Mem.tail _ (List.Mem.tail _ (List.Mem.head _)))))) (by simpa using h)
theorem Kn.o5 {W : World} {p0 p1 p2 p3 p4 : Blk} {b : Nat} {o : Obj} {R : List Blk} : Kn W (p0 :: p1 :: p2 :: p3 :: p4 :: (b, o) :: R) b o := .inr (List.Mem.tail _ (List.Mem.tail _ (List.Mem.tail _ (List.Mem.tail _ (List.Mem.tail _ (List.Mem.head _))))))
theorem Cl.o6 {W : World} {p0 p1 p2 p3 p4 p5 : Blk} {b i : Nat} {vs : List Value} {T : TypeId} {fr : Nat × Nat} {R : List Blk} {v : Value} (h : vs[i]? = some v) : Cl W (p0 :: p1 :: p2 :: p3 :: p4 :: p5 :: (b, .cells vs.toArray T fr) :: R) b i v := Cl.own (List.Mem.tail _ (List.Mem.tail _ (List.Mem.tail _ (List.Mem.tail _ (List.Mem.tail _ (List.Mem.tail _ (List.Mem.head _))))))) (by simpa using h)
theorem Kn.o6 {W : World} {p0 p1 p2 p3 p4 p5 : Blk} {b : Nat} {o : Obj} {R : List Blk} : Kn W (p0 :: p1 :: p2 :: p3 :: p4 :: p5 :: (b, o) :: R) b o := .inr (List.Mem.tail _ (List.Mem.tail _ (List.Mem.tail _ (List.Mem.tail _ (List.Mem.tail _ (List.Mem.tail _ (List.Mem.head _)))))))
theorem Cl.o7 {W : World} {p0 p1 p2 p3 p4 p5 p6 : Blk} {b i : Nat} {vs : List Value} {T : TypeId} {fr : Nat × Nat} {R : List Blk} {v : Value} (h : vs[i]? = some v) : Cl W (p0 :: p1 :: p2 :: p3 :: p4 :: p5 :: p6 :: (b, .cells vs.toArray T fr) :: R) b i v := Cl.own (List.Mem.tail _ (List.Mem.tail _ (List.Mem.tail _ (List.Mem.tail _ (List.Mem.tail _ (List.Mem.tail _ (List.Mem.tail _ (List.Mem.head _)))))))) (by simpa using h)
theorem Kn.o7 {W : World} {p0 p1 p2 p3 p4 p5 p6 : Blk} {b : Nat} {o : Obj} {R : List Blk} : Kn W (p0 :: p1 :: p2 :: p3 :: p4 :: p5 :: p6 :: (b, o) :: R) b o := .inr (List.Mem.tail _ (List.Mem.tail _ (List.Mem.tail _ (List.Mem.tail _ (List.Mem.tail _ (List.Mem.tail _ (List.Mem.tail _ (List.Mem.head _))))))))
theorem Cl.o8 {W : World} {p0 p1 p2 p3 p4 p5 p6 p7 : Blk} {b i : Nat} {vs : List Value} {T : TypeId} {fr : Nat × Nat} {R : List Blk} {v : Value} (h : vs[i]? = some v) : Cl W (p0 :: p1 :: p2 :: p3 :: p4 :: p5 :: p6 :: p7 :: (b, .cells vs.toArray T fr) :: R) b i v := Cl.own (List.Mem.tail _ (List.Mem.tail _ (List.Mem.tail _ (List.Mem.tail _ (List.Mem.tail _ (List.Mem.tail _ (List.Mem.tail _ (List.Mem.tail _ (List.Mem.head _))))))))) (by simpa using h)
theorem Kn.o8 {W : World} {p0 p1 p2 p3 p4 p5 p6 p7 : Blk} {b : Nat} {o : Obj} {R : List Blk} : Kn W (p0 :: p1 :: p2 :: p3 :: p4 :: p5 :: p6 :: p7 :: (b, o) :: R) b o := .inr (List.Mem.tail _ (List.Mem.tail _ (List.Mem.tail _ (List.Mem.tail _ (List.Mem.tail _ (List.Mem.tail _ (List.Mem.tail _ (List.Mem.tail _ (List.Mem.head _)))))))))
theorem Cl.o9 {W : World} {p0 p1 p2 p3 p4 p5 p6 p7 p8 : Blk} {b i : Nat} {vs : List Value} {T : TypeId} {fr : Nat × Nat} {R : List Blk} {v : Value} (h : vs[i]? = some v) : Cl W (p0 :: p1 :: p2 :: p3 :: p4 :: p5 :: p6 :: p7 :: p8 :: (b, .cells vs.toArray T fr) :: R) b i v := Cl.own (List.Mem.tail _ (List.Mem.tail _ (List.Mem.tail _ (List.Mem.tail _ (List.Mem.tail _ (List.Mem.tail _ (List.Mem.tail _ (List.Mem.tail _ (List.Mem.tail _ (List.Mem.head _)))))))))) (by simpa using h)
theorem Kn.o9 {W : World} {p0 p1 p2 p3 p4 p5 p6 p7 p8 : Blk} {b : Nat} {o : Obj} {R : List Blk} : Kn W (p0 :: p1 :: p2 :: p3 :: p4 :: p5 :: p6 :: p7 :: p8 :: (b, o) :: R) b o := .inr (List.Mem.tail _ (List.Mem.tail _ (List.Mem.tail _ (List.Mem.tail _ (List.Mem.tail _ (List.Mem.tail _ (List.Mem.tail _ (List.Mem.tail _ (List.Mem.tail _ (List.Mem.head _))))))))))
theorem Cl.o10 {W : World} {p0 p1 p2 p3 p4 p5 p6 p7 p8 p9 : Blk} {b i : Nat} {vs : List Value} {T : TypeId} {fr : Nat × Nat} {R : List Blk} {v : Value} (h : vs[i]? = some v) : Cl W (p0 :: p1 :: p2 :: p3 :: p4 :: p5 :: p6 :: p7 :: p8 :: p9 :: (b, .cells vs.toArray T fr) :: R) b i v := Cl.own (List.Mem.tail _ (List.Mem.tail _ (List.Mem.tail _ (List.Mem.tail _ (List.Mem.tail _ (List.Mem.tail _ (List.Mem.tail _ (List.Mem.tail _ (List.Mem.tail _ (List.Mem.tail _ (List.Mem.head _))))))))))) (by simpa using h)
theorem Kn.o10 {W : World} {p0 p1 p2 p3 p4 p5 p6 p7 p8 p9 : Blk} {b : Nat} {o : Obj} {R : List Blk} : Kn W (p0 :: p1 :: p2 :: p3 :: p4 :: p5 :: p6 :: p7 :: p8 :: p9 :: (b, o) :: R) b o := .inr (List.Mem.tail _ (List.Mem.tail _ (List.Mem.tail _ (List.Mem.tail _ (List.Mem.tail _ (List.Mem.tail _ (List.Mem.tail _ (List.Mem.tail _ (List.Mem.tail _ (List.Mem.tail _ (List.Mem.head _)))))))))))
theorem Cl.o11 {W : World} {p0 p1 p2 p3 p4 p5 p6 p7 p8 p9 p10 : Blk} {b i : Nat} {vs : List Value} {T : TypeId} {fr : Nat × Nat} {R : List Blk} {v : Value} (h : vs[i]? = some v) : Cl W (p0 :: p1 :: p2 :: p3 :: p4 :: p5 :: p6 :: p7 :: p8 :: p9 :: p10 :: (b, .cells vs.toArray T fr) :: R) b i v := Cl.own (List.Mem.tail _ (List.Mem.tail _ (List.Mem.tail _ (List.Mem.tail _ (List.Mem.tail _ (List.Mem.tail _ (List.Mem.tail _ (List.Mem.tail _ (List.Mem.tail _ (List.Mem.tail _ (List.Mem.tail _ (List.Mem.head _)))))))))))) (by simpa using h)
theorem Kn.o11 {W : World} {p0 p1 p2 p3 p4 p5 p6 p7 p8 p9 p10 : Blk} {b : Nat} {o : Obj} {R : List Blk} : Kn W (p0 :: p1 :: p2 :: p3 :: p4 :: p5 :: p6 :: p7 :: p8 :: p9 :: p10 :: (b, o) :: R) b o := .inr (List.Mem.tail _ (List.Mem.tail _ (List.Mem.tail _ (List.Mem.tail _ (List.Mem.tail _ (List.Mem.tail _ (List.Mem.tail _ (List.Mem.tail _ (List.Mem.tail _ (List.Mem.tail _ (List.Mem.tail _ (List.Mem.head _))))))))))))

theorem Cl.skip {W : World} {p : Blk} {b i : Nat} {R : List Blk} {v : Value} (h : Cl W R b i v) : Cl W (p :: R) b i v := h.mono fun _ hq => List.mem_cons_of_mem _ hq
theorem Cl.app {W : World} {A : List Blk} {b i : Nat} {R : List Blk} {v : Value} (h : Cl W R b i v) : Cl W (A ++ R) b i v := h.mono fun _ hq => List.mem_append_right _ hq
theorem Cl.appl {W : World} {A : List Blk} {b i : Nat} {R : List Blk} {v : Value} (h : Cl W R b i v) : Cl W (R ++ A) b i v := h.mono fun _ hq => List.mem_append_left _ hq
theorem Cl.nil {W : World} {b i : Nat} {R : List Blk} {v : Value} (h : Cl W [] b i v) : Cl W R b i v := h.mono fun _ hq => by cases hq
theorem Rs.mono {W : World} {L L' : List Blk} {p : Option Addr} {news : List Value} (h : Rs W L p news) (hm : ∀ q, q ∈ L → q ∈ L') : Rs W L' p news := fun j u hj => by
  obtain ⟨b, o, h1, h2⟩ := h j u hj
  exact ⟨b, o, h1, h2.mono hm⟩
/-- The source is a fresh block of just these cells. -/
theorem Rs.fresh {W : World} {L : List Blk} {b : Nat} {vs : List Value} {T : TypeId} {fr : Nat × Nat} (h : (b, Obj.cells vs.toArray T fr) ∈ L) : Rs W L (some ⟨b, 0, none⟩) vs := fun j u hj => ⟨b, 0, rfl, Cl.own h (by simpa using hj)⟩

/-! ### lists of a known length -/
theorem list1 {α : Type} {l : List α} (h : l.length = 1) : ∃ a0, l = [a0] := by
  match l, h with
  | [a0], _ => exact ⟨a0, rfl⟩
theorem list2 {α : Type} {l : List α} (h : l.length = 2) : ∃ a0 a1, l = [a0, a1] := by
  match l, h with
  | [a0, a1], _ => exact ⟨a0, a1, rfl⟩
theorem list3 {α : Type} {l : List α} (h : l.length = 3) : ∃ a0 a1 a2, l = [a0, a1, a2] := by
  match l, h with
  | [a0, a1, a2], _ => exact ⟨a0, a1, a2, rfl⟩
theorem list4 {α : Type} {l : List α} (h : l.length = 4) : ∃ a0 a1 a2 a3, l = [a0, a1, a2, a3] := by
  match l, h with
  | [a0, a1, a2, a3], _ => exact ⟨a0, a1, a2, a3, rfl⟩
theorem list5 {α : Type} {l : List α} (h : l.length = 5) : ∃ a0 a1 a2 a3 a4, l = [a0, a1, a2, a3, a4] := by
  match l, h with
  | [a0, a1, a2, a3, a4], _ => exact ⟨a0, a1, a2, a3, a4, rfl⟩
theorem list6 {α : Type} {l : List α} (h : l.length = 6) : ∃ a0 a1 a2 a3 a4 a5, l = [a0, a1, a2, a3, a4, a5] := by
  match l, h with
  | [a0, a1, a2, a3, a4, a5], _ => exact ⟨a0, a1, a2, a3, a4, a5, rfl⟩
theorem list7 {α : Type} {l : List α} (h : l.length = 7) : ∃ a0 a1 a2 a3 a4 a5 a6, l = [a0, a1, a2, a3, a4, a5, a6] := by
  match l, h with
  | [a0, a1, a2, a3, a4, a5, a6], _ => exact ⟨a0, a1, a2, a3, a4, a5, a6, rfl⟩
theorem list8 {α : Type} {l : List α} (h : l.length = 8) : ∃ a0 a1 a2 a3 a4 a5 a6 a7, l = [a0, a1, a2, a3, a4, a5, a6, a7] := by
  match l, h with
  | [a0, a1, a2, a3, a4, a5, a6, a7], _ => exact ⟨a0, a1, a2, a3, a4, a5, a6, a7, rfl⟩
theorem list9 {α : Type} {l : List α} (h : l.length = 9) : ∃ a0 a1 a2 a3 a4 a5 a6 a7 a8, l = [a0, a1, a2, a3, a4, a5, a6, a7, a8] := by
  match l, h with
  | [a0, a1, a2, a3, a4, a5, a6, a7, a8], _ => exact ⟨a0, a1, a2, a3, a4, a5, a6, a7, a8, rfl⟩
theorem list10 {α : Type} {l : List α} (h : l.length = 10) : ∃ a0 a1 a2 a3 a4 a5 a6 a7 a8 a9, l = [a0, a1, a2, a3, a4, a5, a6, a7, a8, a9] := by
  match l, h with
  | [a0, a1, a2, a3, a4, a5, a6, a7, a8, a9], _ => exact ⟨a0, a1, a2, a3, a4, a5, a6, a7, a8, a9, rfl⟩
theorem list11 {α : Type} {l : List α} (h : l.length = 11) : ∃ a0 a1 a2 a3 a4 a5 a6 a7 a8 a9 a10, l = [a0, a1, a2, a3, a4, a5, a6, a7, a8, a9, a10] := by
  match l, h with
  | [a0, a1, a2, a3, a4, a5, a6, a7, a8, a9, a10], _ => exact ⟨a0, a1, a2, a3, a4, a5, a6, a7, a8, a9, a10, rfl⟩
theorem list12 {α : Type} {l : List α} (h : l.length = 12) : ∃ a0 a1 a2 a3 a4 a5 a6 a7 a8 a9 a10 a11, l = [a0, a1, a2, a3, a4, a5, a6, a7, a8, a9, a10, a11] := by
  match l, h with
  | [a0, a1, a2, a3, a4, a5, a6, a7, a8, a9, a10, a11], _ => exact ⟨a0, a1, a2, a3, a4, a5, a6, a7, a8, a9, a10, a11, rfl⟩
theorem take_step {α : Type} {xs ys : List α} {k s : Nat} (h : (xs.drop (k * s)).take s = ys) : xs.take ((k + 1) * s) = xs.take (k * s) ++ ys := by
  rw [← h, Nat.add_mul, Nat.one_mul, List.take_add]
theorem Rs.at {W : World} {L : List Blk} {p : Option Addr} {xs : List Value} (h : Rs W L p xs) {j : Nat} (hj : j < xs.length) : ∃ b o, p = some ⟨b, o, none⟩ ∧ ∀ i u, xs[i]? = some u → Cl W L b (o + i) u := by
  obtain ⟨b, o, hp, _⟩ := h j _ (List.getElem?_eq_getElem hj)
  refine ⟨b, o, hp, fun i u hi => ?_⟩
  obtain ⟨b', o', hp', hc⟩ := h i u hi
  rw [hp] at hp'
  simp only [Option.some.injEq, Addr.mk.injEq] at hp'
  obtain ⟨rfl, rfl, _⟩ := hp'
  exact hc
theorem get_drop {α : Type} {xs ys : List α} {k s j : Nat} {u : α} (h : (xs.drop k).take s = ys) (hj : ys[j]? = some u) : xs[k + j]? = some u := by
  rw [← h, List.getElem?_take] at hj
  split at hj
  · rw [List.getElem?_drop] at hj; exact hj
  · cases hj

/-! ### rows of elements of several cells -/
theorem flat_length {α : Type} (enc : α → List Value) {s : Nat} (hs : ∀ x, (enc x).length = s) : ∀ (l : List α), (l.flatMap enc).length = l.length * s
  | [] => by simp
  | x :: r => by rw [List.flatMap_cons, List.length_append, hs, flat_length enc hs r, List.length_cons, Nat.add_mul]; omega
theorem flat_get {α : Type} (enc : α → List Value) {s : Nat} (hs : ∀ x, (enc x).length = s) : ∀ (l : List α) (k : Nat) (x : α), l[k]? = some x → ∀ j u, (enc x)[j]? = some u → (l.flatMap enc)[k * s + j]? = some u
  | [], _, _, h, _, _, _ => by cases h
  | y :: r, 0, x, h, j, u, hj => by
    simp only [List.getElem?_cons_zero, Option.some.injEq] at h
    subst h
    rw [List.flatMap_cons, Nat.zero_mul, Nat.zero_add, List.getElem?_append_left (List.getElem?_eq_some_iff.1 hj).1]; exact hj
  | y :: r, k + 1, x, h, j, u, hj => by
    simp only [List.getElem?_cons_succ] at h
    have := flat_get enc hs r k x h j u hj
    rw [List.flatMap_cons, List.getElem?_append_right (by rw [hs, Nat.add_mul]; omega), hs, ← this]
    congr 1
    rw [Nat.add_mul]; omega
theorem flat_snoc {α : Type} (enc : α → List Value) (l : List α) (k : Nat) (x : α) (h : l[k]? = some x) : (l.take (k + 1)).flatMap enc = (l.take k).flatMap enc ++ enc x := by
  rw [List.take_add_one, h]; simp
/-- The rows x of type α, each of s cells, lie at the slice p. -/
theorem Rs.row {α : Type} {W : World} {L : List Blk} {p : Option Addr} {enc : α → List Value} {s : Nat} {l : List α} (h : Rs W L p (l.flatMap enc)) (hs : ∀ x, (enc x).length = s) (h0 : 0 < s) {k : Nat} (hk : k < l.length) :
    ∃ b o, p = some ⟨b, o, none⟩ ∧ ∀ j u, (enc l[k])[j]? = some u → Cl W L b (o + k * s + j) u := by
  have hlen := flat_length enc hs l
  have hm : k * s < l.length * s := Nat.mul_lt_mul_of_pos_right hk h0
  obtain ⟨b, o, hp, hc⟩ := h.at (j := k * s) (by omega)
  refine ⟨b, o, hp, fun j u hj => ?_⟩
  rw [Nat.add_assoc]
  exact hc _ u (flat_get enc hs l k _ (List.getElem?_eq_getElem hk) j u hj)

/-- An owned slice that is not nil: its block, and what lies behind its elements. -/
theorem SlO.cut {s : Nat} {e : TypeId} {v : Value} {m : Nat} {xs : List Value} {l : List Blk} (h : SlO s e v m xs l) (hm : 0 < m) : ∃ b rest cap, v = .slice (some ⟨b, 0, none⟩) m cap ∧ m ≤ cap ∧ l = [(b, .cells (xs ++ rest).toArray e (0, 0))] := by
  rcases h with ⟨_, rfl, _⟩ | ⟨b, cs, cap, rfl, rfl, h1, h2, rfl⟩
  · omega
  · refine ⟨b, cs.toList.drop (m * s), cap, rfl, h1, ?_⟩
    rw [List.take_append_drop]
theorem Cl.pre {W : World} {b i : Nat} {T : TypeId} {fr : Nat × Nat} {vs rest : List Value} {R : List Blk} {v : Value} (h : vs[i]? = some v) : Cl W ((b, .cells (vs ++ rest).toArray T fr) :: R) b (0 + i) v :=
  Cl.own (List.Mem.head _) (by rw [Nat.zero_add]; simp [List.getElem?_append_left (List.getElem?_eq_some_iff.1 h).1, h])

/-! ### sums that fit -/
class KB (k : IntKind) (lo hi : outParam Int) : Prop where h : ∀ z, lo ≤ z → z ≤ hi → k.wrap z = z
instance : KB .i64 (-9223372036854775808) 9223372036854775807 := ⟨fun z h1 h2 => by rw [IntKind.wrap_i64]; omega⟩
instance : KB .i32 (-2147483648) 2147483647 := ⟨fun z h1 h2 => by rw [IntKind.wrap_i32]; omega⟩
instance : KB .u8 0 255 := ⟨fun z h1 h2 => by rw [IntKind.wrap_u8]; omega⟩
instance : KB .u32 0 4294967295 := ⟨fun z h1 h2 => by rw [IntKind.wrap_u32]; omega⟩
theorem wrap_u16 (n : Int) : IntKind.u16.wrap n = n % 65536 := by simp [IntKind.wrap, IntKind.bits, IntKind.signed]
theorem wrap_u64 (n : Int) : IntKind.u64.wrap n = n % 18446744073709551616 := by simp [IntKind.wrap, IntKind.bits, IntKind.signed]
instance : KB .u16 0 65535 := ⟨fun z h1 h2 => by rw [wrap_u16]; omega⟩
instance : KB .u64 0 18446744073709551615 := ⟨fun z h1 h2 => by rw [wrap_u64]; omega⟩

section
variable {P : Program} {W : World} {n : Nat} {L : List Blk} {E : List (Nat × Value)} {d : Option Nat} {t : TypeId} {pos : String} {after : Array Edge} {g : Option (Nat × Bool)} {Q : Exit → Act → World → Prop}
theorem rd_addn {T T' : Nat} {x y : Operand} {k : IntKind} {i j lo hi : Int} [hk : KB k lo hi] (hx : ev E x = some (.int k i)) (hy : ev E y = some (.int k j)) (h1 : lo ≤ i + j) (h2 : i + j ≤ hi) :
    RD P W n L E ⟨d, .binOp .add T x y T', t, pos, after, g⟩ (.int k (i + j)) := rd_cast (rd_add hx hy) (by rw [hk.h _ h1 h2])
theorem rd_subn {T T' : Nat} {x y : Operand} {k : IntKind} {i j lo hi : Int} [hk : KB k lo hi] (hx : ev E x = some (.int k i)) (hy : ev E y = some (.int k j)) (h1 : lo ≤ i - j) (h2 : i - j ≤ hi) :
    RD P W n L E ⟨d, .binOp .sub T x y T', t, pos, after, g⟩ (.int k (i - j)) := rd_cast (rd_sub hx hy) (by rw [hk.h _ h1 h2])
theorem rd_muln {T T' : Nat} {x y : Operand} {k : IntKind} {i j lo hi : Int} [hk : KB k lo hi] (hx : ev E x = some (.int k i)) (hy : ev E y = some (.int k j)) (h1 : lo ≤ i * j) (h2 : i * j ≤ hi) :
    RD P W n L E ⟨d, .binOp .mul T x y T', t, pos, after, g⟩ (.int k (i * j)) := rd_cast (rd_mul hx hy) (by rw [hk.h _ h1 h2])
theorem rd_convn {S T : Nat} {x : Operand} {k k' : IntKind} {i lo hi : Int} [hS : Ik P S k'] [hT : Ik P T k] [hk : KB k lo hi] (hx : ev E x = some (.int k' i)) (h1 : lo ≤ i) (h2 : i ≤ hi) :
    RD P W n L E ⟨d, .convert S T x, t, pos, after, g⟩ (.int k i) := rd_cast (rd_conv hx) (by rw [hk.h _ h1 h2])
theorem xc_dec {c : Operand} {x y : Code} {p : Prop} [hd : Decidable p] (hc : ev E c = some (.bool (decide p))) (h1 : p → XC P W n x Q L E) (h2 : ¬p → XC P W n y Q L E) : XC P W n (.cond c x y) Q L E :=
  xc_cond hc (fun h => h1 (of_decide_eq_true h)) (fun h => h2 (of_decide_eq_false h))
theorem xc_ndec {c : Operand} {x y : Code} {p : Prop} [hd : Decidable p] (hc : ev E c = some (.bool (!decide p))) (h1 : ¬p → XC P W n x Q L E) (h2 : p → XC P W n y Q L E) : XC P W n (.cond c x y) Q L E :=
  xc_cond hc (fun h => h1 (by simpa using h)) (fun h => h2 (by simpa using h))
theorem xo_dec {ops : Array Oper} {rest : List Oper} (t : Nat) {p : Prop} [hd : Decidable p] (ht : lk E t = some (.bool (decide p))) (h1 : p → XO P W n ops Q rest L ((t, .bool true) :: E)) (h2 : ¬p → XO P W n ops Q rest L ((t, .bool false) :: E)) : XO P W n ops Q rest L E :=
  xo_split t ht (fun h => h1 (of_decide_eq_true h)) (fun h => h2 (of_decide_eq_false h))
theorem xo_ndec {ops : Array Oper} {rest : List Oper} (t : Nat) {p : Prop} [hd : Decidable p] (ht : lk E t = some (.bool (!decide p))) (h1 : ¬p → XO P W n ops Q rest L ((t, .bool true) :: E)) (h2 : p → XO P W n ops Q rest L ((t, .bool false) :: E)) : XO P W n ops Q rest L E :=
  xo_split t ht (fun h => h1 (by simpa using h)) (fun h => h2 (by simpa using h))
theorem Inf.of {T s b : Nat} {z : Value} (h : (P.info? T).map (fun i => (i.zero, i.size, i.bytes)) = some (some z, s, b)) (hz : z.cells.size = s) : Inf P T z s b := ⟨by
  cases hi : P.info? T with
  | none => rw [hi] at h; cases h
  | some i =>
    rw [hi] at h
    simp only [Option.map_some, Option.some.injEq, Prod.mk.injEq] at h
    exact ⟨i, rfl, h.1, h.2.1, h.2.2, hz⟩⟩
theorem xq_retg' {K : Value → List Blk → Prop} {fn : Func} {v : Value} {e : Exit} {L' : List Blk} (hL : L'.Sublist L) (he : e = .ret ∨ e = .normal) (hres : ∀ a w, Env n a E → Hp W w L → (results fn a.tmps).run P w = .ok v w) (h : K v L') : XQ W n (bodyPost P fn (XP W K)) e L E := by
  refine ⟨fun a w ha hw => ?_⟩
  rcases he with rfl | rfl
  · exact ⟨ha.defers, _, hres a w ha hw, _, rfl, L', hw.sub hL, h⟩
  · exact ⟨ha.defers, _, hres a w ha hw, _, rfl, L', hw.sub hL, h⟩
/-- The result is one whole block. -/
theorem xq_retB {K : Value → List Blk → Prop} {fn : Func} {t T b m : Nat} {vs : List Value} {T' : TypeId} {fr : Nat × Nat} {e : Exit} [hA : Ta P T true] [hS : Ts P T m] (he : e = .ret ∨ e = .normal) (hr : fn.results = #[.cell t T]) (ht : lk E t = some (.pointer (some ⟨b, 0, none⟩)))
    (hk : Kn W L b (.cells vs.toArray T' fr)) (hm : vs.length = m) {L' : List Blk} (hL : L'.Sublist L) (h : K (.agg vs.toArray) L') : XQ W n (bodyPost P fn (XP W K)) e L E :=
  xq_retg' hL he (fun a w ha hw => by
    have h1 := hA.h w
    have h2 := hS.h w
    subst hm
    have hl := run_loadCells_list (P := P) w ⟨b, 0, none⟩ vs (fun j v hj => by
      rw [add_zero', Nat.zero_add]
      exact (Cl.get (L := L) ⟨_, _, _, hk, by simpa using hj⟩ hw))
    have hv := ha.val t _ ht
    simp [results, hr, Array.getD_eq_getD_getElem?, hv, asAddr, loadVar, h1, h2, hl]) h
theorem XF.mid (A : List Blk) {f : FuncId} {args : Array Value} {K : Value → List Blk → Prop} {p : Blk} {R : List Blk} (h : XF P W f args (p :: (A ++ R)) K) : XF P W f args (A ++ p :: R) K := h.perm List.perm_middle
theorem xo_mid (A : List Blk) {ops : Array Oper} {rest : List Oper} {p : Blk} {R : List Blk} (h : XO P W n ops Q rest (A ++ p :: R) E) : XO P W n ops Q rest (p :: (A ++ R)) E := xo_perm List.perm_middle.symm h
theorem xc_mid (A : List Blk) {c : Code} {p : Blk} {R : List Blk} (h : XC P W n c Q (A ++ p :: R) E) : XC P W n c Q (p :: (A ++ R)) E := xc_perm List.perm_middle.symm h
theorem xq_mid (A : List Blk) {e : Exit} {p : Blk} {R : List Blk} (h : XQ W n Q e (A ++ p :: R) E) : XQ W n Q e (p :: (A ++ R)) E := xq_perm List.perm_middle.symm h
theorem xo_up (A : List Blk) {ops : Array Oper} {rest : List Oper} {p : Blk} {R : List Blk} (h : XO P W n ops Q rest (p :: (A ++ R)) E) : XO P W n ops Q rest (A ++ p :: R) E := xo_perm List.perm_middle h
theorem xc_up (A : List Blk) {c : Code} {p : Blk} {R : List Blk} (h : XC P W n c Q (p :: (A ++ R)) E) : XC P W n c Q (A ++ p :: R) E := xc_perm List.perm_middle h
theorem xr_perm {ops : Array Oper} {M L' : List Blk} {fuel : Nat} {listed : Array Bool} (hp : L.Perm L') (h : XR P W n ops Q M fuel listed L' E) : XR P W n ops Q M fuel listed L E := .mk fun a w ha hw => h.run a w ha (hw.perm hp)
theorem xr_tail {ops : Array Oper} {M : List Blk} {fuel : Nat} {listed : Array Bool} {p : Blk} (h : XR P W n ops Q M fuel listed L E) : XR P W n ops Q M fuel listed (p :: L) E := .mk fun a w ha hw => h.run a w ha (hw.sub (List.sublist_cons_self _ _))
theorem xr_mid (A : List Blk) {ops : Array Oper} {M : List Blk} {fuel : Nat} {listed : Array Bool} {p : Blk} {R : List Blk} (h : XR P W n ops Q M fuel listed (A ++ p :: R) E) : XR P W n ops Q M fuel listed (p :: (A ++ R)) E := xr_perm List.perm_middle.symm h
theorem rd_quon {T T' : Nat} {x y : Operand} {k : IntKind} {i j lo hi : Int} [hk : KB k lo hi] (hx : ev E x = some (.int k i)) (hy : ev E y = some (.int k j)) (h0 : 0 ≤ i) (hj : 0 < j) (hh : i ≤ hi) (hl : lo ≤ 0) :
    RD P W n L E ⟨d, .binOp .quo T x y T', t, pos, after, g⟩ (.int k (i / j)) := rd_cast (rd_quo hx hy (by omega)) (by
  have h1 : i / j ≤ i := Int.ediv_le_self j h0
  have h2 : 0 ≤ i / j := Int.ediv_nonneg h0 (by omega)
  rw [Int.tdiv_eq_ediv_of_nonneg h0, hk.h _ (by omega) (by omega)])
theorem rd_remn {T T' : Nat} {x y : Operand} {k : IntKind} {i j : Int} (hx : ev E x = some (.int k i)) (hy : ev E y = some (.int k j)) (h0 : 0 ≤ i) (hj : 0 < j) :
    RD P W n L E ⟨d, .binOp .rem T x y T', t, pos, after, g⟩ (.int k (i % j)) := rd_cast (rd_rem hx hy (by omega)) (by rw [Int.tmod_eq_emod_of_nonneg h0])

/-! ### a struct is made -/
def setL (l : List Value) (o : Nat) : List Value → List Value
  | [] => l
  | v :: r => setL (l.set o v) (o + 1) r
def fillL (pl : List (Nat × Nat)) (zs : List Value) : List (Nat × Value) → List Value
  | [] => zs
  | (i, v) :: r => fillL pl (setL zs (pl.getD i (0, 0)).1 v.cells.toList) r
def fillOk (pl : List (Nat × Nat)) (m : Nat) : List (Nat × Value) → Bool
  | [] => true
  | (i, v) :: r => (match pl[i]? with
    | some (o, s) => Nat.beq v.cells.toList.length s && Nat.ble (o + s) m
    | none => false) && fillOk pl m r
class Pl (P : Program) (T : Nat) (pl : outParam (List (Nat × Nat))) : Prop where h : ∃ fs, P.underlying T = some (.struct fs) ∧ ∀ w, (fs.mapM fun f => (do pure (f.offset, ← sizeOf f.type) : Sem (Nat × Nat))).run P w = .ok pl.toArray w
def evp (E : List (Nat × Value)) : List (Nat × Operand) → Option (List (Nat × Value))
  | [] => some []
  | (i, x) :: r => match ev E x with
    | some v => (match evp E r with
      | some vs => some ((i, v) :: vs)
      | none => none)
    | none => none
theorem Env.evalp {a : Act} (h : Env n a E) : ∀ {l : List (Nat × Operand)} {vs : List (Nat × Value)}, evp E l = some vs → l.map (fun (i, x) => (i, a.eval x)) = vs
  | [], vs, hv => by cases hv; rfl
  | (i, x) :: r, vs, hv => by
    unfold evp at hv
    split at hv
    · rename_i v hx
      split at hv
      · rename_i us hr
        cases hv
        rw [List.map_cons, h.evalp hr]
        simp only [h.eval hx]
      · cases hv
    · cases hv
theorem setL_length : ∀ (vs l : List Value) (o : Nat), (setL l o vs).length = l.length
  | [], _, _ => rfl
  | v :: r, l, o => by rw [setL, setL_length r]; simp
theorem foldl_setL : ∀ (vs : List Value) (l : List Value) (o k : Nat), (vs.zipIdx k).foldl (fun cs (c, j) => cs.setIfInBounds (o + j) c) l.toArray = (setL l (o + k) vs).toArray
  | [], _, _, _ => rfl
  | v :: r, l, o, k => by
    rw [List.zipIdx_cons, List.foldl_cons, setL]
    have := foldl_setL r (l.set (o + k) v) o (k + 1)
    rw [← Nat.add_assoc] at this
    rw [← this]
    simp
theorem fill_eq (pl : List (Nat × Nat)) : ∀ (us : List (Nat × Value)) (zs : List Value), fillOk pl zs.length us = true → Instr.fill (pl.toArray[·]?) zs.toArray us = some (fillL pl zs us).toArray
  | [], zs, _ => rfl
  | (i, v) :: r, zs, h => by
    rw [fillOk, Bool.and_eq_true] at h
    obtain ⟨h1, h2⟩ := h
    cases hp : pl[i]? with
    | none => rw [hp] at h1; cases h1
    | some q =>
      obtain ⟨o, s⟩ := q
      rw [hp] at h1
      simp only [Bool.and_eq_true, Nat.beq_eq, Nat.ble_eq, Array.length_toList] at h1
      obtain ⟨e1, e2⟩ := h1
      have hp' : pl.toArray[i]? = some (o, s) := by simpa using hp
      have hg : (pl.getD i (0, 0)).1 = o := by simp [List.getD, hp]
      rw [Instr.fill, hp']
      simp only [fillL, hg]
      rw [if_neg (by simp only [ne_eq, e1, not_true_eq_false, gt_iff_lt, List.size_toArray, decide_false, Bool.false_or, decide_eq_true_eq, Bool.or_eq_true]; omega)]
      have hz : v.cells.zipIdx.foldl (fun cs (c, j) => cs.setIfInBounds (o + j) c) zs.toArray = (setL zs o v.cells.toList).toArray := by
        have := foldl_setL v.cells.toList zs o 0
        simp only [Nat.add_zero] at this
        rw [← this, ← Array.foldl_toList]
        simp
      rw [hz]
      exact fill_eq pl r (setL zs o v.cells.toList) (by rw [setL_length]; exact h2)
theorem rd_build {T : Nat} {parts : List (Nat × Operand)} {us : List (Nat × Value)} {pl : List (Nat × Nat)} {z : Value} {zs : List Value} [hP : Pl P T pl] [hI : T0 P T z] (hp : evp E parts = some us) (hz : z = .agg zs.toArray) (hf : fillOk pl zs.length us = true) :
    RD P W n L E ⟨d, .build T parts.toArray, t, pos, after, g⟩ (.agg (fillL pl zs us).toArray) := .mk fun a w ha hw => by
  obtain ⟨fs, h1, h2⟩ := hP.h
  have h0 := hI.h w
  subst hz
  have hc : (Value.agg zs.toArray).cells = zs.toArray := rfl
  have he := ha.evalp hp
  have h3 := h2 w
  have hfl := fill_eq pl us zs hf
  simp only [execOp, Instr.build, Sem.run_bind, h0, Result.andThen_ok, run_underlying h1, h3, hc, List.map_toArray, he, hfl]
  rfl
end
end Go.Proofs.Ytoolgphkfnkajaa.X
