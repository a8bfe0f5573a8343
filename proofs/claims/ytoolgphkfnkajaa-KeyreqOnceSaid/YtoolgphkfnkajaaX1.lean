/-
  Words of my own for walks: a heap of known blocks over a base world, a frame of known slots, and a step rule for each kind of operation. No condition; generic over the program.
-/
import Derived.OrdersHeld
import Derived.Deep.RegionHeld3
import Derived.Below
import Derived.WalkKit
import Derived.KernelRfl
import Derived.Laws.Cells
import Derived.Laws.Tables
import Derived.Laws.CopyRow
namespace Go.Proofs.Ytoolgphkfnkajaa.X
open Go Go.RowKit
set_option linter.unusedVariables false

abbrev Blk := Nat × Obj

/-! ### the heap -/
structure Hp (W w : World) (L : List Blk) : Prop where
  os : w.os = W.os
  tape : w.tape = W.tape
  output : w.output = W.output
  base : ∀ (b : Nat) (o : Obj), W.heap[b]? = some o → w.heap[b]? = some o
  own : ∀ p, p ∈ L → w.heap[p.1]? = some p.2
  nod : (L.map Prod.fst).Nodup
  hi : ∀ p, p ∈ L → W.heap.size ≤ p.1

theorem Hp.start (W : World) : Hp W W [] := ⟨rfl, rfl, rfl, fun _ _ h => h, (fun _ h => by cases h), List.nodup_nil, (fun _ h => by cases h)⟩
theorem Hp.size {W w : World} {L : List Blk} (h : Hp W w L) : W.heap.size ≤ w.heap.size := by
  by_cases h0 : W.heap.size = 0
  · omega
  · have h1 : W.heap[W.heap.size - 1]? = some W.heap[W.heap.size - 1] := Array.getElem?_eq_getElem (by omega)
    have h2 := (Array.getElem?_eq_some_iff.1 (h.base _ _ h1)).1
    omega
theorem Hp.below {W w : World} {L : List Blk} (h : Hp W w L) : Below W.heap.size W w :=
  ⟨h.os, h.tape, h.output, h.size, fun k hk => by rw [Array.getElem?_eq_getElem hk, h.base k _ (Array.getElem?_eq_getElem hk)]⟩
theorem Hp.perm {W w : World} {L L' : List Blk} (h : Hp W w L) (p : L.Perm L') : Hp W w L' :=
  ⟨h.os, h.tape, h.output, h.base, fun q hq => h.own q (p.mem_iff.2 hq), (p.map Prod.fst).nodup_iff.1 h.nod, fun q hq => h.hi q (p.mem_iff.2 hq)⟩
theorem Hp.sub {W w : World} {L L' : List Blk} (h : Hp W w L) (p : L'.Sublist L) : Hp W w L' :=
  ⟨h.os, h.tape, h.output, h.base, fun q hq => h.own q (p.subset hq), h.nod.sublist (p.map Prod.fst), fun q hq => h.hi q (p.subset hq)⟩
theorem Hp.drew {W w : World} {L : List Blk} (h : Hp W w L) : Hp W { w with drawn := w.drawn + 1 } L :=
  ⟨h.os, h.tape, h.output, h.base, h.own, h.nod, h.hi⟩
theorem Hp.lt {W w : World} {L : List Blk} (h : Hp W w L) {p : Blk} (hp : p ∈ L) : p.1 < w.heap.size := (Array.getElem?_eq_some_iff.1 (h.own p hp)).1
theorem Hp.alloc {W w : World} {L : List Blk} (h : Hp W w L) (o : Obj) : Hp W { w with heap := w.heap.push o } ((w.heap.size, o) :: L) := by
  refine ⟨h.os, h.tape, h.output, fun b x hb => ?_, fun p hp => ?_, ?_, fun p hp => ?_⟩
  · have h1 := h.base b x hb
    have h2 := (Array.getElem?_eq_some_iff.1 h1).1
    show (w.heap.push o)[b]? = some x
    rw [Array.getElem?_push, if_neg (by omega)]; exact h1
  · show (w.heap.push o)[p.1]? = some p.2
    rcases List.mem_cons.1 hp with rfl | hp
    · simp
    · have h2 := h.lt hp
      rw [Array.getElem?_push, if_neg (by omega)]; exact h.own p hp
  · rw [List.map_cons, List.nodup_cons]
    refine ⟨fun hm => ?_, h.nod⟩
    obtain ⟨q, hq, he⟩ := List.mem_map.1 hm
    have := h.lt hq
    simp only at he
    omega
  · rcases List.mem_cons.1 hp with rfl | hp
    · exact h.size
    · exact h.hi p hp
/-- The first block's content is turned. -/
theorem Hp.turn {W w w' : World} {b : Nat} {o o' : Obj} {L : List Blk} (h : Hp W w ((b, o) :: L)) (hos : w'.os = w.os) (ht : w'.tape = w.tape) (hout : w'.output = w.output)
    (hb : w'.heap[b]? = some o') (hk : ∀ k, k ≠ b → w'.heap[k]? = w.heap[k]?) : Hp W w' ((b, o') :: L) := by
  have hn := h.nod
  rw [List.map_cons, List.nodup_cons] at hn
  refine ⟨hos.trans h.os, ht.trans h.tape, hout.trans h.output, fun k x hx => ?_, fun p hp => ?_, ?_, fun p hp => ?_⟩
  · have h1 := h.base k x hx
    have h2 := (Array.getElem?_eq_some_iff.1 hx).1
    have h3 := h.hi (b, o) (by simp)
    rw [hk k (by simp only at h3; omega)]; exact h1
  · rcases List.mem_cons.1 hp with rfl | hp
    · exact hb
    · have hne : p.1 ≠ b := fun e => hn.1 (List.mem_map.2 ⟨p, hp, e⟩)
      rw [hk _ hne]; exact h.own p (List.mem_cons_of_mem _ hp)
  · rw [List.map_cons, List.nodup_cons]; exact hn
  · rcases List.mem_cons.1 hp with rfl | hp
    · exact h.hi (b, o) (by simp)
    · exact h.hi p (List.mem_cons_of_mem _ hp)
theorem Hp.head {W w : World} {b : Nat} {o : Obj} {L : List Blk} (h : Hp W w ((b, o) :: L)) : w.heap[b]? = some o := h.own (b, o) (by simp)

/-- What a block is known to hold: of the base world, or one of the own ones. -/
def Kn (W : World) (L : List Blk) (b : Nat) (o : Obj) : Prop := W.heap[b]? = some o ∨ (b, o) ∈ L
theorem Kn.get {W w : World} {L : List Blk} {b : Nat} {o : Obj} (k : Kn W L b o) (h : Hp W w L) : w.heap[b]? = some o :=
  k.elim (h.base b o) (fun m => h.own (b, o) m)
theorem Kn.mono {W : World} {L L' : List Blk} {b : Nat} {o : Obj} (k : Kn W L b o) (h : ∀ p, p ∈ L → p ∈ L') : Kn W L' b o := k.imp id (h _)
theorem Kn.own {W : World} {L : List Blk} {b : Nat} {o : Obj} (h : (b, o) ∈ L) : Kn W L b o := .inr h

/-- What a cell is known to hold. -/
def Cl (W : World) (L : List Blk) (b i : Nat) (v : Value) : Prop := ∃ cs T fr, Kn W L b (.cells cs T fr) ∧ cs[i]? = some v
theorem Cl.get {W w : World} {L : List Blk} {b i : Nat} {v : Value} (c : Cl W L b i v) (h : Hp W w L) : w.cell? ⟨b, i, none⟩ = some v := by
  obtain ⟨cs, T, fr, k, hc⟩ := c
  simp [World.cell?, k.get h, hc]
theorem Cl.mono {W : World} {L L' : List Blk} {b i : Nat} {v : Value} (c : Cl W L b i v) (h : ∀ p, p ∈ L → p ∈ L') : Cl W L' b i v := by
  obtain ⟨cs, T, fr, k, hc⟩ := c
  exact ⟨cs, T, fr, k.mono h, hc⟩
theorem Cl.base {W : World} {L : List Blk} {b i : Nat} {v : Value} (h : W.cell? ⟨b, i, none⟩ = some v) : Cl W L b i v := by
  unfold World.cell? at h
  simp only at h
  split at h
  · rename_i c e f hb
    exact ⟨c, e, f, .inl hb, by simpa using h⟩
  · cases h
theorem Cl.own {W : World} {L : List Blk} {b i : Nat} {v : Value} {cs : Array Value} {T : TypeId} {fr : Nat × Nat} (h : (b, Obj.cells cs T fr) ∈ L) (hc : cs[i]? = some v) : Cl W L b i v := ⟨cs, T, fr, .inr h, hc⟩

/-! ### the frame -/
def lk : List (Nat × Value) → Nat → Option Value
  | [], _ => none
  | (j, v) :: r, i => match Nat.beq j i with
    | true => some v
    | false => lk r i
structure Env (n : Nat) (a : Act) (E : List (Nat × Value)) : Prop where
  defers : a.defers = []
  size : a.tmps.size = n
  val : ∀ i v, lk E i = some v → a.tmps[i]? = some v
def ev (E : List (Nat × Value)) : Operand → Option Value
  | .tmp t => lk E t
  | .const v => some v
  | .global g => some (.pointer (some ⟨g, 0, none⟩))
  | .func f => some (.func (.func f) #[] #[])
theorem Env.eval {n : Nat} {a : Act} {E : List (Nat × Value)} (h : Env n a E) {x : Operand} {v : Value} (hx : ev E x = some v) : a.eval x = v := by
  cases x with
  | tmp t => simp only [Act.eval, Array.getD_eq_getD_getElem?, h.val t v hx, Option.getD_some]
  | const u => exact Option.some.inj hx
  | global g => exact Option.some.inj hx
  | func f => exact Option.some.inj hx
theorem lk_cons (j : Nat) (v : Value) (E : List (Nat × Value)) (i : Nat) : lk ((j, v) :: E) i = if j = i then some v else lk E i := by
  show (match Nat.beq j i with | true => some v | false => lk E i) = _
  by_cases h : j = i
  · subst h; simp
  · have : Nat.beq j i = false := by
      cases hb : Nat.beq j i
      · rfl
      · exact absurd (Nat.eq_of_beq_eq_true hb) h
    simp [this, h]
theorem Env.put {n : Nat} {a : Act} {E : List (Nat × Value)} (h : Env n a E) (d : Nat) (v : Value) (hd : d < n) : Env n (a.put (some d) v) ((d, v) :: E) := by
  refine ⟨h.defers, by simp [Act.put, h.size], fun i u hu => ?_⟩
  rw [lk_cons] at hu
  show (a.tmps.setIfInBounds d v)[i]? = some u
  by_cases hi : d = i
  · subst hi
    rw [if_pos rfl] at hu
    have hs : d < a.tmps.size := by rw [h.size]; exact hd
    rw [Array.getElem?_setIfInBounds_self_of_lt hs]; exact hu
  · rw [if_neg hi] at hu
    rw [Array.getElem?_setIfInBounds_ne hi]; exact h.val i u hu
def pt (E : List (Nat × Value)) : Option Nat → Value → List (Nat × Value)
  | some d, v => (d, v) :: E
  | none, _ => E
def okd (n : Nat) : Option Nat → Bool
  | some d => Nat.blt d n
  | none => true
theorem Env.pt {n : Nat} {a : Act} {E : List (Nat × Value)} (h : Env n a E) (d : Option Nat) (v : Value) (hd : okd n d = true) : Env n (a.put d v) (pt E d v) := by
  cases d with
  | none => exact h
  | some d => exact h.put d v (by simpa [okd, Nat.blt_eq] using hd)
theorem Env.keep {n : Nat} {a : Act} {E E' : List (Nat × Value)} (h : Env n a E) (hk : ∀ i v, lk E' i = some v → lk E i = some v) : Env n a E' := ⟨h.defers, h.size, fun i v hv => h.val i v (hk i v hv)⟩
theorem keep_nil {E : List (Nat × Value)} : ∀ i v, lk [] i = some v → lk E i = some v := fun _ _ h => by cases h
theorem keep_cons {E E' : List (Nat × Value)} {j : Nat} {u : Value} (hj : lk E j = some u) (h : ∀ i v, lk E' i = some v → lk E i = some v) : ∀ i v, lk ((j, u) :: E') i = some v → lk E i = some v := fun i v hv => by
  rw [lk_cons] at hv
  split at hv
  · rename_i e; subst e; rw [hj]; exact hv
  · exact h i v hv

/-! ### one operation -/
structure RD (P : Program) (W : World) (n : Nat) (L : List Blk) (E : List (Nat × Value)) (o : Oper) (v : Value) : Prop where
  run : ∀ a w, Env n a E → Hp W w L → (execOp a.eval o).run P w = .ok (.value v) w
def effUp (P : Program) (K : Value → World → Prop) : Result Next → Prop
  | .ok (.value v) w' => K v w'
  | .ok .skip w' => K undef w'
  | .ok (.enter f args) w' => Calls P f args w' fun e w'' => ∃ v, e = .returned v ∧ K v w''
  | _ => False
theorem effUp.upon {P : Program} {K : Value → World → Prop} {o : Oper} {a : Act} {next : Act → World → Prop} {Q : Exit → Act → World → Prop} {r : Result Next}
    (h : effUp P K r) (hk : ∀ v w, K v w → next (a.put o.dst v) w) : o.upon P a next Q r := by
  unfold effUp at h
  split at h
  · exact hk _ _ h
  · exact hk _ _ h
  · exact Calls.mono h fun e w'' ⟨v, he, hv⟩ => by subst he; exact hk _ _ hv
  · exact h.elim
structure EF (P : Program) (W : World) (n : Nat) (L : List Blk) (E : List (Nat × Value)) (o : Oper) (K : Value → List Blk → Prop) : Prop where
  run : ∀ a w, Env n a E → Hp W w L → effUp P (fun v w' => ∃ L', Hp W w' L' ∧ K v L') ((execOp a.eval o).run P w)
theorem EF.mono {P : Program} {W : World} {n : Nat} {L : List Blk} {E : List (Nat × Value)} {o : Oper} {K K' : Value → List Blk → Prop} (h : EF P W n L E o K) (hk : ∀ v L', K v L' → K' v L') : EF P W n L E o K' := by
  refine ⟨fun a w ha hw => ?_⟩
  have := h.run a w ha hw
  revert this
  generalize (execOp a.eval o).run P w = r
  intro this
  unfold effUp at this ⊢
  split
  · obtain ⟨L', h1, h2⟩ := this; exact ⟨L', h1, hk _ _ h2⟩
  · obtain ⟨L', h1, h2⟩ := this; exact ⟨L', h1, hk _ _ h2⟩
  · exact Calls.mono this fun e w'' ⟨v, he, L', h1, h2⟩ => ⟨v, he, L', h1, hk _ _ h2⟩
  · simp_all

/-! ### a list of operations (in the order of the text) -/
structure XO (P : Program) (W : World) (n : Nat) (ops : Array Oper) (Q : Exit → Act → World → Prop) (rest : List Oper) (L : List Blk) (E : List (Nat × Value)) : Prop where
  run : ∀ a w, Env n a E → Hp W w L → wpList P ops Q rest a w
structure XQ (W : World) (n : Nat) (Q : Exit → Act → World → Prop) (e : Exit) (L : List Blk) (E : List (Nat × Value)) : Prop where
  run : ∀ a w, Env n a E → Hp W w L → Q e a w
structure XC (P : Program) (W : World) (n : Nat) (c : Code) (Q : Exit → Act → World → Prop) (L : List Blk) (E : List (Nat × Value)) : Prop where
  run : ∀ a w, Env n a E → Hp W w L → c.wp P Q a w

section
variable {P : Program} {W : World} {n : Nat} {ops : Array Oper} {Q : Exit → Act → World → Prop} {rest : List Oper} {L : List Blk} {E : List (Nat × Value)}
theorem xo_nil (h : XQ W n Q .normal L E) : XO P W n ops Q [] L E := .mk fun a w ha hw => h.run a w ha hw
theorem xo_rd {d : Option Nat} {op : Op} {t : TypeId} {pos : String} {after : Array Edge} {v : Value}
    (hr : RD P W n L E ⟨d, op, t, pos, after, none⟩ v) (hd : okd n d = true) (h : XO P W n ops Q rest L (pt E d v)) : XO P W n ops Q (⟨d, op, t, pos, after, none⟩ :: rest) L E := by
  refine ⟨fun a w ha hw => ?_⟩
  unfold wpList
  simp only [Region.wanted, if_true]
  refine .inl ?_
  unfold Oper.wp
  rw [hr.run a w ha hw]
  exact h.run _ _ (ha.pt d v hd) hw
theorem xo_ef {d : Option Nat} {op : Op} {t : TypeId} {pos : String} {after : Array Edge}
    (hd : okd n d = true) (hr : EF P W n L E ⟨d, op, t, pos, after, none⟩ (fun v L' => XO P W n ops Q rest L' (pt E d v))) : XO P W n ops Q (⟨d, op, t, pos, after, none⟩ :: rest) L E := by
  refine ⟨fun a w ha hw => ?_⟩
  unfold wpList
  simp only [Region.wanted, if_true]
  refine .inl ?_
  unfold Oper.wp
  exact effUp.upon (hr.run a w ha hw) fun v w' ⟨L', h1, h2⟩ => h2.run _ _ (ha.pt d v hd) h1
theorem yielded_of {a : Act} (ha : Env n a E) {g t : Nat} {b : Bool} (hg : (ops[g]?).bind (·.dst) = some t) (ht : lk E t = some (.bool b)) : yielded ops a.tmps g = some b := by
  unfold yielded
  rw [hg]
  simp only [Option.bind_some]
  rw [ha.val t _ ht]
theorem xo_grd {d : Option Nat} {op : Op} {t : TypeId} {pos : String} {after : Array Edge} {v : Value} {g gt : Nat} {b : Bool}
    (hg : (ops[g]?).bind (·.dst) = some gt) (ht : lk E gt = some (.bool b))
    (hr : RD P W n L E ⟨d, op, t, pos, after, some (g, b)⟩ v) (hd : okd n d = true) (h : XO P W n ops Q rest L (pt E d v)) : XO P W n ops Q (⟨d, op, t, pos, after, some (g, b)⟩ :: rest) L E := by
  refine ⟨fun a w ha hw => ?_⟩
  unfold wpList
  have hy := yielded_of (ops := ops) ha hg ht
  rw [if_pos (by simp [Region.wanted, hy])]
  refine .inl ?_
  unfold Oper.wp
  rw [hr.run a w ha hw]
  exact h.run _ _ (ha.pt d v hd) hw
theorem xo_gef {d : Option Nat} {op : Op} {t : TypeId} {pos : String} {after : Array Edge} {g gt : Nat} {b : Bool}
    (hg : (ops[g]?).bind (·.dst) = some gt) (ht : lk E gt = some (.bool b)) (hd : okd n d = true)
    (hr : EF P W n L E ⟨d, op, t, pos, after, some (g, b)⟩ (fun v L' => XO P W n ops Q rest L' (pt E d v))) : XO P W n ops Q (⟨d, op, t, pos, after, some (g, b)⟩ :: rest) L E := by
  refine ⟨fun a w ha hw => ?_⟩
  unfold wpList
  have hy := yielded_of (ops := ops) ha hg ht
  rw [if_pos (by simp [Region.wanted, hy])]
  refine .inl ?_
  unfold Oper.wp
  exact effUp.upon (hr.run a w ha hw) fun v w' ⟨L', h1, h2⟩ => h2.run _ _ (ha.pt d v hd) h1
theorem xo_gskip {d : Option Nat} {op : Op} {t : TypeId} {pos : String} {after : Array Edge} {g gt : Nat} {b c : Bool}
    (hg : (ops[g]?).bind (·.dst) = some gt) (ht : lk E gt = some (.bool c)) (hc : (c == b) = false) (hd : okd n d = true)
    (h : XO P W n ops Q rest L (pt E d undef)) : XO P W n ops Q (⟨d, op, t, pos, after, some (g, b)⟩ :: rest) L E := by
  refine ⟨fun a w ha hw => ?_⟩
  unfold wpList
  have hy := yielded_of (ops := ops) ha hg ht
  rw [if_neg (by simpa [Region.wanted, hy] using hc)]
  exact h.run _ _ (ha.pt d undef hd) hw
theorem xo_split (t : Nat) {b : Bool} (ht : lk E t = some (.bool b)) (h1 : b = true → XO P W n ops Q rest L ((t, .bool true) :: E)) (h2 : b = false → XO P W n ops Q rest L ((t, .bool false) :: E)) : XO P W n ops Q rest L E := by
  refine ⟨fun a w ha hw => ?_⟩
  have hk : ∀ c, b = c → Env n a ((t, .bool c) :: E) := fun c hc => ha.keep (keep_cons (by rw [ht, hc]) (fun _ _ h => h))
  cases hb : b
  · exact (h2 hb).run a w (hk _ hb) hw
  · exact (h1 hb).run a w (hk _ hb) hw
theorem xo_keep {E' : List (Nat × Value)} (h : XO P W n ops Q rest L E') (hk : ∀ i v, lk E' i = some v → lk E i = some v) : XO P W n ops Q rest L E := .mk fun a w ha hw => h.run a w (ha.keep hk) hw
theorem xc_keep {c : Code} {E' : List (Nat × Value)} (h : XC P W n c Q L E') (hk : ∀ i v, lk E' i = some v → lk E i = some v) : XC P W n c Q L E := .mk fun a w ha hw => h.run a w (ha.keep hk) hw
theorem xo_perm {L' : List Blk} (hp : L.Perm L') (h : XO P W n ops Q rest L' E) : XO P W n ops Q rest L E := .mk fun a w ha hw => h.run a w ha (hw.perm hp)
theorem xc_perm {c : Code} {L' : List Blk} (hp : L.Perm L') (h : XC P W n c Q L' E) : XC P W n c Q L E := .mk fun a w ha hw => h.run a w ha (hw.perm hp)
theorem xo_sub {L' : List Blk} (hp : L'.Sublist L) (h : XO P W n ops Q rest L' E) : XO P W n ops Q rest L E := .mk fun a w ha hw => h.run a w ha (hw.sub hp)
theorem xc_sub {c : Code} {L' : List Blk} (hp : L'.Sublist L) (h : XC P W n c Q L' E) : XC P W n c Q L E := .mk fun a w ha hw => h.run a w ha (hw.sub hp)

/-! ### code -/
theorem xc_seq {x y : Code} (h : XC P W n x (Exit.then (fun a w => y.wp P Q a w) Q) L E) : XC P W n (.seq x y) Q L E := .mk fun a w ha hw => wp_seq (h.run a w ha hw)
theorem xc_skip (h : XQ W n Q .normal L E) : XC P W n .skip Q L E := .mk fun a w ha hw => wp_skip (h.run a w ha hw)
theorem xc_ret (h : XQ W n Q .ret L E) : XC P W n .ret Q L E := .mk fun a w ha hw => wp_ret (h.run a w ha hw)
theorem xc_exit {id : Nat} (h : XQ W n Q (.exit id) L E) : XC P W n (.exit id) Q L E := .mk fun a w ha hw => wp_exit (h.run a w ha hw)
theorem xc_block {id : Nat} {c : Code} (h : XC P W n c (Exit.inBlock id Q) L E) : XC P W n (.block id c) Q L E := .mk fun a w ha hw => wp_block (h.run a w ha hw)
theorem xc_region {id : Nat} {l : List Oper} (h : XO P W n l.toArray Q l L E) : XC P W n (.region id l.toArray false) Q L E := .mk fun a w ha hw => wp_region_lit (h.run a w ha hw)
theorem xc_cond {c : Operand} {x y : Code} {b : Bool} (hc : ev E c = some (.bool b)) (h1 : b = true → XC P W n x Q L E) (h2 : b = false → XC P W n y Q L E) : XC P W n (.cond c x y) Q L E := .mk fun a w ha hw =>
  wp_cond_split (ha.eval hc) (fun h => (h1 h).run a w ha hw) (fun h => (h2 h).run a w ha hw)
theorem xc_condt {c : Operand} {x y : Code} (hc : ev E c = some (.bool true)) (h1 : XC P W n x Q L E) : XC P W n (.cond c x y) Q L E := xc_cond hc (fun _ => h1) (fun h => by cases h)
theorem xc_condf {c : Operand} {x y : Code} (hc : ev E c = some (.bool false)) (h1 : XC P W n y Q L E) : XC P W n (.cond c x y) Q L E := xc_cond hc (fun h => by cases h) (fun _ => h1)
theorem wp_loop_ex {c : Code} {ι : Type} (μ : ι → Nat) (J : ι → Act → World → Prop) (i0 : ι) {a : Act} {w : World} (h0 : J i0 a w)
    (round : ∀ i a w, J i a w → c.wp P (Exit.then (fun a' w' => ∃ j, μ j < μ i ∧ J j a' w') Q) a w) : (Code.loop c).wp P Q a w := by
  intro b k cs
  have key : ∀ m i a w, μ i = m → J i a w → ∃ e a' w', Q e a' w' ∧ Arrives P (lone (b.at a (.code c :: .inLoop c :: k)) cs w) b k cs e a' w' := by
    intro m
    induction m using Nat.strongRecOn with
    | _ m ih =>
      intro i a w hm hJ
      obtain ⟨e, a₁, w₁, hq, harr⟩ := round i a w hJ b (.inLoop c :: k) cs
      cases e with
      | normal =>
        obtain ⟨j, hlt, hJ₁⟩ := hq
        obtain ⟨e₂, a₂, w₂, hq₂, harr₂⟩ := ih (μ j) (hm ▸ hlt) j a₁ w₁ rfl hJ₁
        exact ⟨e₂, a₂, w₂, hq₂, .of_steps (Steps.trans harr (.one step_inLoop)) harr₂⟩
      | exit id => exact ⟨_, a₁, w₁, hq, .pass (x := .inLoop c) rfl (fun _ _ => .inl (by simp)) harr⟩
      | goto l => exact ⟨_, a₁, w₁, hq, .pass (x := .inLoop c) rfl (fun _ _ => .inl (by simp)) harr⟩
      | ret => exact ⟨_, a₁, w₁, hq, .pass (x := .inLoop c) rfl (fun _ _ => .inl (by simp)) harr⟩
      | panic ch => exact ⟨_, a₁, w₁, hq, .pass (x := .inLoop c) rfl (fun _ _ => .inl (by simp)) harr⟩
      | outgrown => exact ⟨_, a₁, w₁, hq, .pass (x := .inLoop c) rfl (fun _ _ => .inl (by simp)) harr⟩
  obtain ⟨e, a', w', hq, harr⟩ := key _ i0 a w rfl h0
  exact ⟨e, a', w', hq, .of_steps (.one step_loop) harr⟩
theorem xc_loop {c : Code} {ι : Type} (μ : ι → Nat) (Ls : ι → List Blk) (Es : ι → List (Nat × Value)) (i0 : ι) (hL : L = Ls i0) (hE : ∀ i v, lk (Es i0) i = some v → lk E i = some v)
    (round : ∀ i, XC P W n c (Exit.then (fun a w => ∃ j, μ j < μ i ∧ Env n a (Es j) ∧ Hp W w (Ls j)) Q) (Ls i) (Es i)) : XC P W n (.loop c) Q L E := by
  refine ⟨fun a w ha hw => ?_⟩
  subst hL
  exact wp_loop_ex μ (fun i a w => Env n a (Es i) ∧ Hp W w (Ls i)) i0 ⟨ha.keep hE, hw⟩ fun i a w ⟨h1, h2⟩ => (round i).run a w h1 h2
theorem xc_loopI {c : Code} {ι : Type} (I : ι → Prop) (μ : ι → Nat) (Ls : ι → List Blk) (Es : ι → List (Nat × Value)) (i0 : ι) (h0 : I i0) (hL : L = Ls i0) (hE : ∀ i v, lk (Es i0) i = some v → lk E i = some v)
    (round : ∀ i, I i → XC P W n c (Exit.then (fun a w => ∃ j, I j ∧ μ j < μ i ∧ Env n a (Es j) ∧ Hp W w (Ls j)) Q) (Ls i) (Es i)) : XC P W n (.loop c) Q L E := by
  refine ⟨fun a w ha hw => ?_⟩
  subst hL
  refine wp_loop_ex μ (fun i a w => I i ∧ Env n a (Es i) ∧ Hp W w (Ls i)) i0 ⟨h0, ha.keep hE, hw⟩ fun i a w ⟨hi, h1, h2⟩ => Code.wp_mono ?_ ((round i hi).run a w h1 h2)
  intro e a' w' q
  cases e with
  | normal => obtain ⟨j, q1, q2, q3, q4⟩ := q; exact ⟨j, q2, q1, q3, q4⟩
  | _ => exact q
theorem xq_roundI {ι : Type} {I : ι → Prop} {μ : ι → Nat} {Ls : ι → List Blk} {Es : ι → List (Nat × Value)} {m : Nat} (j : ι) (hj : I j) (hm : μ j < m) (hL : L = Ls j) (hE : ∀ k v, lk (Es j) k = some v → lk E k = some v) :
    XQ W n (Exit.then (fun a w => ∃ j, I j ∧ μ j < m ∧ Env n a (Es j) ∧ Hp W w (Ls j)) Q) .normal L E := .mk fun a w ha hw => ⟨j, hj, hm, ha.keep hE, hL ▸ hw⟩
theorem xq_tail {p : Blk} {e : Exit} (h : XQ W n Q e L E) : XQ W n Q e (p :: L) E := .mk fun a w ha hw => h.run a w ha (hw.sub (List.sublist_cons_self _ _))
theorem xo_tail {p : Blk} (h : XO P W n ops Q rest L E) : XO P W n ops Q rest (p :: L) E := .mk fun a w ha hw => h.run a w ha (hw.sub (List.sublist_cons_self _ _))
theorem xc_tail {c : Code} {p : Blk} (h : XC P W n c Q L E) : XC P W n c Q (p :: L) E := .mk fun a w ha hw => h.run a w ha (hw.sub (List.sublist_cons_self _ _))
theorem xq_drop (A : List Blk) {p : Blk} {e : Exit} (h : XQ W n Q e (A ++ L) E) : XQ W n Q e (A ++ p :: L) E := .mk fun a w ha hw => h.run a w ha (hw.sub ((List.Sublist.refl A).append (List.sublist_cons_self _ _)))
theorem xo_drop (A : List Blk) {p : Blk} (h : XO P W n ops Q rest (A ++ L) E) : XO P W n ops Q rest (A ++ p :: L) E := .mk fun a w ha hw => h.run a w ha (hw.sub ((List.Sublist.refl A).append (List.sublist_cons_self _ _)))
theorem xc_drop (A : List Blk) {c : Code} {p : Blk} (h : XC P W n c Q (A ++ L) E) : XC P W n c Q (A ++ p :: L) E := .mk fun a w ha hw => h.run a w ha (hw.sub ((List.Sublist.refl A).append (List.sublist_cons_self _ _)))
theorem xq_sub {L' : List Blk} {e : Exit} (hp : L'.Sublist L) (h : XQ W n Q e L' E) : XQ W n Q e L E := .mk fun a w ha hw => h.run a w ha (hw.sub hp)
theorem xq_perm {L' : List Blk} {e : Exit} (hp : L.Perm L') (h : XQ W n Q e L' E) : XQ W n Q e L E := .mk fun a w ha hw => h.run a w ha (hw.perm hp)
theorem xq_keep {E' : List (Nat × Value)} {e : Exit} (h : XQ W n Q e L E') (hk : ∀ i v, lk E' i = some v → lk E i = some v) : XQ W n Q e L E := .mk fun a w ha hw => h.run a w (ha.keep hk) hw
theorem xq_then {N : Act → World → Prop} (h : ∀ a w, Env n a E → Hp W w L → N a w) : XQ W n (Exit.then N Q) .normal L E := ⟨h⟩
theorem xq_seq {y : Code} (h : XC P W n y Q L E) : XQ W n (Exit.then (fun a w => y.wp P Q a w) Q) .normal L E := ⟨h.run⟩
theorem xq_round {ι : Type} {μ : ι → Nat} {Ls : ι → List Blk} {Es : ι → List (Nat × Value)} {i : ι} (j : ι) (hm : μ j < μ i) (hL : L = Ls j) (hE : ∀ k v, lk (Es j) k = some v → lk E k = some v) :
    XQ W n (Exit.then (fun a w => ∃ j, μ j < μ i ∧ Env n a (Es j) ∧ Hp W w (Ls j)) Q) .normal L E := .mk fun a w ha hw => ⟨j, hm, ha.keep hE, hL ▸ hw⟩
theorem xq_then_exit {N : Act → World → Prop} {id : Nat} (h : XQ W n Q (.exit id) L E) : XQ W n (Exit.then N Q) (.exit id) L E := ⟨h.run⟩
theorem xq_then_ret {N : Act → World → Prop} (h : XQ W n Q .ret L E) : XQ W n (Exit.then N Q) .ret L E := ⟨h.run⟩
theorem xq_block {id : Nat} (h : XQ W n Q .normal L E) : XQ W n (Exit.inBlock id Q) .normal L E := ⟨h.run⟩
theorem xq_block_ret {id : Nat} (h : XQ W n Q .ret L E) : XQ W n (Exit.inBlock id Q) .ret L E := ⟨h.run⟩
theorem xq_block_hit {id : Nat} (h : XQ W n Q .normal L E) : XQ W n (Exit.inBlock id Q) (.exit id) L E := .mk fun a w ha hw => by
  show (if id = id then Q .normal a w else Q (.exit id) a w); rw [if_pos rfl]; exact h.run a w ha hw
theorem xq_block_miss {id id' : Nat} (hne : Nat.beq id' id = false) (h : XQ W n Q (.exit id') L E) : XQ W n (Exit.inBlock id Q) (.exit id') L E := .mk fun a w ha hw => by
  show (if id' = id then Q .normal a w else Q (.exit id') a w); rw [if_neg (fun e => by subst e; simp at hne)]; exact h.run a w ha hw
end

/-! ### calls -/
structure XF (P : Program) (W : World) (f : FuncId) (args : Array Value) (L : List Blk) (K : Value → List Blk → Prop) : Prop where
  run : ∀ w, Hp W w L → Calls P f args w fun e w' => ∃ v, e = .returned v ∧ ∃ L', Hp W w' L' ∧ K v L'
def XP (W : World) (K : Value → List Blk → Prop) (e : Ending) (w' : World) : Prop := ∃ v, e = .returned v ∧ ∃ L', Hp W w' L' ∧ K v L'
def zipArgs : Nat → List Value → List (Nat × Value)
  | _, [] => []
  | i, v :: r => (i, v) :: zipArgs (i + 1) r
theorem lk_zipArgs : ∀ (l : List Value) (k i : Nat) (v : Value), lk (zipArgs k l) i = some v → k ≤ i ∧ l[i - k]? = some v
  | [], _, _, _, h => by cases h
  | u :: r, k, i, v, h => by
    rw [zipArgs, lk_cons] at h
    split at h
    · rename_i e; subst e; simpa using h
    · rename_i hne
      obtain ⟨h1, h2⟩ := lk_zipArgs r (k + 1) i v h
      refine ⟨by omega, ?_⟩
      rw [show i - k = (i - (k + 1)) + 1 by omega]; simpa using h2
section
variable {P : Program} {W : World} {f : FuncId} {L : List Blk} {K : Value → List Blk → Prop}
theorem XF.mono {args : Array Value} {K' : Value → List Blk → Prop} (h : XF P W f args L K) (hk : ∀ v L', K v L' → K' v L') : XF P W f args L K' := .mk fun w hw =>
  Calls.mono (h.run w hw) fun e w' ⟨v, he, L', h1, h2⟩ => ⟨v, he, L', h1, hk _ _ h2⟩
theorem XF.perm {args : Array Value} {L' : List Blk} (h : XF P W f args L' K) (hp : L.Perm L') : XF P W f args L K := .mk fun w hw => h.run w (hw.perm hp)
theorem XF.sub {args : Array Value} {L' : List Blk} (h : XF P W f args L' K) (hp : L'.Sublist L) : XF P W f args L K := .mk fun w hw => h.run w (hw.sub hp)
theorem xf_enter {fn : Func} {c : Code} {args : List Value} {n : Nat} (hf : P.funcs[f]? = some fn) (hb : fn.body = some c) (hn : fn.ntmps = n) (hl : Nat.ble args.length n = true)
    (h : XC P W n c (bodyPost P fn (XP W K)) L (zipArgs 0 args)) : XF P W f args.toArray L K := by
  refine ⟨fun w hw => ?_⟩
  refine calls_of_wp hf hb (h.run _ w ⟨rfl, ?_, fun i v hv => ?_⟩ hw)
  · have : args.length ≤ n := by simpa [Nat.ble_eq] using hl
    simp [hn]; omega
  · obtain ⟨_, h2⟩ := lk_zipArgs args 0 i v hv
    have h3 := (List.getElem?_eq_some_iff.1 h2).1
    simp only [Nat.sub_zero] at h2 h3
    rw [Array.getElem?_append_left (by simpa using h3)]
    simpa using h2
/-- The end: the results lie in slots. -/
theorem xq_ret1 {fn : Func} {n : Nat} {E : List (Nat × Value)} {t : Nat} {v : Value} {e : Exit} (he : e = .ret ∨ e = .normal) (hr : fn.results = #[.tmp t]) (ht : lk E t = some v) (h : K v L) : XQ W n (bodyPost P fn (XP W K)) e L E := by
  refine ⟨fun a w ha hw => ?_⟩
  have hres : (results fn a.tmps).run P w = .ok v w := by
    rw [results_tmp hr]; congr 1; simp [Array.getD_eq_getD_getElem?, ha.val t v ht]
  rcases he with rfl | rfl
  · exact ⟨ha.defers, v, hres, v, rfl, L, hw, h⟩
  · exact ⟨ha.defers, v, hres, v, rfl, L, hw, h⟩
theorem xq_ret0 {fn : Func} {n : Nat} {E : List (Nat × Value)} {e : Exit} (he : e = .ret ∨ e = .normal) (hr : fn.results = #[]) (h : K (.tuple #[]) L) : XQ W n (bodyPost P fn (XP W K)) e L E := by
  refine ⟨fun a w ha hw => ?_⟩
  have hres : (results fn a.tmps).run P w = .ok (.tuple #[]) w := results_none hr _ _ _
  rcases he with rfl | rfl
  · exact ⟨ha.defers, _, hres, _, rfl, L, hw, h⟩
  · exact ⟨ha.defers, _, hres, _, rfl, L, hw, h⟩
theorem xq_ret2 {fn : Func} {n : Nat} {E : List (Nat × Value)} {t u : Nat} {v x : Value} {e : Exit} (he : e = .ret ∨ e = .normal) (hr : fn.results = #[.tmp t, .tmp u]) (ht : lk E t = some v) (hu : lk E u = some x) (h : K (.tuple #[v, x]) L) : XQ W n (bodyPost P fn (XP W K)) e L E := by
  refine ⟨fun a w ha hw => ?_⟩
  have hres : (results fn a.tmps).run P w = .ok (.tuple #[v, x]) w := by
    rw [results_tmp2 hr]; congr 1; simp [Array.getD_eq_getD_getElem?, ha.val t v ht, ha.val u x hu]
  rcases he with rfl | rfl
  · exact ⟨ha.defers, _, hres, _, rfl, L, hw, h⟩
  · exact ⟨ha.defers, _, hres, _, rfl, L, hw, h⟩
/-- The end in general: the results are read. -/
theorem xq_retg {fn : Func} {n : Nat} {E : List (Nat × Value)} {v : Value} {e : Exit} (he : e = .ret ∨ e = .normal) (hres : ∀ a w, Env n a E → Hp W w L → (results fn a.tmps).run P w = .ok v w) (h : K v L) : XQ W n (bodyPost P fn (XP W K)) e L E := by
  refine ⟨fun a w ha hw => ?_⟩
  rcases he with rfl | rfl
  · exact ⟨ha.defers, _, hres a w ha hw, _, rfl, L, hw, h⟩
  · exact ⟨ha.defers, _, hres a w ha hw, _, rfl, L, hw, h⟩
end
end Go.Proofs.Ytoolgphkfnkajaa.X
