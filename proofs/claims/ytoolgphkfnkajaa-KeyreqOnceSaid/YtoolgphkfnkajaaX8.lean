/-
  Words of my own for walks, further operations: nil slices, slices of no element, slices with three bounds, clear, an append in place, maps whose keys are whole numbers, functions without a body. No condition; generic over the program.
-/
import Derived.Test.YtoolgphkfnkajaaX5
import Derived.Laws.Cover3
import Derived.Laws.Externs
namespace Go.Proofs.Ytoolgphkfnkajaa.X
open Go Go.RowKit
set_option linter.unusedVariables false
set_option linter.unusedSimpArgs false
section
variable {P : Program} {W : World} {n : Nat} {L : List Blk} {E : List (Nat × Value)} {d : Option Nat} {t : TypeId} {pos : String} {after : Array Edge} {g : Option (Nat × Bool)} {K : Value → List Blk → Prop}

theorem rd_eqnilS {T T' e : Nat} {x : Operand} {p : Option Addr} {m c : Nat} [hT : Sl P T e] (hx : ev E x = some (.slice p m c)) :
    RD P W n L E ⟨d, .binOp .eql T x (.const (.slice none 0 0)) T', t, pos, after, g⟩ (.bool p.isNone) := .mk fun a w ha hw => by
  have hc : a.eval (.const (.slice none 0 0)) = .slice none 0 0 := rfl
  have h1 := run_equal_slice_nil (P := P) w T e p m c hT.h
  simp only [execOp, ha.eval hx, hc]
  simp [eqGuard, binOp, h1]
theorem rd_nenilS {T T' e : Nat} {x : Operand} {p : Option Addr} {m c : Nat} [hT : Sl P T e] (hx : ev E x = some (.slice p m c)) :
    RD P W n L E ⟨d, .binOp .neq T x (.const (.slice none 0 0)) T', t, pos, after, g⟩ (.bool p.isSome) := .mk fun a w ha hw => by
  have hc : a.eval (.const (.slice none 0 0)) = .slice none 0 0 := rfl
  have h1 := run_equal_slice_nil (P := P) w T e p m c hT.h
  simp only [execOp, ha.eval hx, hc]
  cases p <;> simp [eqGuard, binOp, h1]
theorem ef_slice0 {T : Nat} {e s : Nat} [hT : Sl P T e] [hS : Ts P e s] (hk : ∀ r, K (.slice (some ⟨r, 0, none⟩) 0 0) ((r, .cells #[] e (0, 0)) :: L)) : EF P W n L E ⟨d, .buildSlice T 0 #[], t, pos, after, g⟩ K :=
  ef_of_new (v := fun r => .slice (some ⟨r, 0, none⟩) 0 0) (fun a w ha hw => by
    have hB := hS.h w
    have h0 : Array.map (fun (_ : Nat) => (default : Value)) (Array.range 0) = #[] := by simp [Array.range]
    simp [execOp, Instr.buildSlice, run_underlying hT.h, hB, Instr.fill, newRow, h0]) hk
theorem SlO.zero {s : Nat} {e : TypeId} {r : Nat} : SlO s e (.slice (some ⟨r, 0, none⟩) 0 0) 0 [] [(r, .cells #[] e (0, 0))] := .inr ⟨r, #[], 0, rfl, rfl, Nat.le_refl _, by simp, by simp⟩
theorem rd_slice3 {T e m b o len cap : Nat} {x lo hi mx : Operand} {k k' k'' : IntKind} {i j q : Int} [hT : Sl P T e] [hS : Ts P e m] (hx : ev E x = some (.slice (some ⟨b, o, none⟩) len cap)) (hl : ev E lo = some (.int k i)) (hh : ev E hi = some (.int k' j)) (hm : ev E mx = some (.int k'' q))
    (h0 : 0 ≤ i) (h1 : i ≤ j) (h2 : j ≤ q) (h3 : q ≤ cap) :
    ∃ v, RD P W n L E ⟨d, .slice T x (some lo) (some hi) (some mx), t, pos, after, g⟩ v := by
  refine ⟨.slice (if q.toNat = i.toNat then some ⟨b, o, none⟩ else some ⟨b, o + i.toNat * m, none⟩) (j.toNat - i.toNat) (q.toNat - i.toNat), .mk fun a w ha hw => ?_⟩
  have hB := hS.h w
  have e1 : 0 ≤ j := by omega
  have e2 : 0 ≤ q := by omega
  have e3 : j ≤ (q.toNat : Int) := by omega
  have e4 : i ≤ (j.toNat : Int) := by omega
  have e5 : j ≤ max q 0 := by omega
  have e6 : i ≤ max j 0 := by omega
  simp [execOp, ha.eval hx, ha.eval hl, ha.eval hh, ha.eval hm, Instr.sliceAt, Instr.slice, Instr.sliceBounds, Instr.sliceBound, run_underlying hT.h, asIntOf, hB, h0, h1, h2, h3, e1, e2, e3, e4, e5, e6, add_zero']
theorem rd_sliceEnd {T e m b o len cap : Nat} {x lo : Operand} {k : IntKind} {i : Int} [hT : Sl P T e] [hS : Ts P e m] (hx : ev E x = some (.slice (some ⟨b, o, none⟩) len cap)) (hl : ev E lo = some (.int k i))
    (h0 : 0 ≤ i) (h1 : i ≤ len) :
    RD P W n L E ⟨d, .slice T x (some lo) none none, t, pos, after, g⟩ (.slice (if cap = i.toNat then some ⟨b, o, none⟩ else some ⟨b, o + i.toNat * m, none⟩) (len - i.toNat) (cap - i.toNat)) := .mk fun a w ha hw => by
  have hB := hS.h w
  simp [execOp, ha.eval hx, ha.eval hl, Instr.sliceAt, Instr.slice, Instr.sliceBounds, Instr.sliceBound, run_underlying hT.h, asIntOf, hB, h0, h1, add_zero']
theorem rd_sliceNil {T e m : Nat} {x lo hi : Operand} {k k' : IntKind} [hT : Sl P T e] [hS : Ts P e m] (hx : ev E x = some (.slice none 0 0)) (hl : ev E lo = some (.int k 0)) (hh : ev E hi = some (.int k' 0)) :
    RD P W n L E ⟨d, .slice T x (some lo) (some hi) none, t, pos, after, g⟩ (.slice none 0 0) := .mk fun a w ha hw => by
  have hB := hS.h w
  simp [execOp, ha.eval hx, ha.eval hl, ha.eval hh, Instr.sliceAt, Instr.slice, Instr.sliceBounds, Instr.sliceBound, run_underlying hT.h, asIntOf, hB]
/-- The room is there: the source's cells are read, then written behind the first ones. -/
theorem ef_appendRoom (A R : List Blk) {T e s bt : Nat} {z : Value} {x y : Operand} {b m k c cap : Nat} {p : Option Addr} {cs : Array Value} {news : List Value} [hT : Sl P T e] [hI : Inf P e z s bt]
    (hx : ev E x = some (.slice (some ⟨b, 0, none⟩) m cap)) (hy : ev E y = some (.slice p k c)) (hL : L = A ++ (b, .cells cs e (0, 0)) :: R) (hsrc : Rs W L p news) (hk : news.length = k * s) (h1a : news.all (·.oneCell') = true)
    (hroom : m + k ≤ cap) (hcs : cs.size = cap * s) (hs : 0 < s) (hK : K (.slice (some ⟨b, 0, none⟩) (m + k) cap) (A ++ (b, .cells (cs.toList.take (m * s) ++ news ++ cs.toList.drop (m * s + news.length)).toArray e (0, 0)) :: R)) :
    EF P W n L E ⟨d, .call ⟨.builtin .append, #[x, y], #[T, T]⟩, t, pos, after, g⟩ K := by
  have h1 : ∀ u ∈ news, u.oneCell' = true := List.all_eq_true.1 h1a
  refine ⟨fun a w ha hw => ?_⟩
  have hrun : (execOp a.eval ⟨d, .call ⟨.builtin .append, #[x, y], #[T, T]⟩, t, pos, after, g⟩).run P w = ((Builtin.append_ #[T, T] t #[.slice (some ⟨b, 0, none⟩) m cap, .slice p k c]).run P w).andThen fun v w => .ok (.value v) w := by
    simp [execOp, resolve, invoke, builtin, ha.eval hx, ha.eval hy]
  rw [hrun]
  obtain ⟨i, hi1, hi2, hi3, hi4, hzz⟩ := hI.h
  subst hi3; subst hi4
  subst hL
  by_cases hk0 : k = 0
  · subst hk0
    have hn : news = [] := List.eq_nil_of_length_eq_zero (by simpa using hk)
    subst hn
    rw [run_append_zero (some ⟨b, 0, none⟩) p m cap c w (by omega)]
    refine ⟨_, hw, ?_⟩
    simpa using hK
  · have hpos : 0 < news.length := by rw [hk]; exact Nat.mul_pos (by omega) hs
    obtain ⟨b0, o0, hp, _⟩ := hsrc 0 _ (List.getElem?_eq_getElem hpos)
    subst hp
    have hnews : ∀ j u, news[j]? = some u → w.cell? ((⟨b0, o0, none⟩ : Addr).add j) = some u := fun j u hj => by
      obtain ⟨b', o', hbo, hc⟩ := hsrc j u hj
      simp only [Option.some.injEq, Addr.mk.injEq] at hbo
      obtain ⟨rfl, rfl, _⟩ := hbo
      rw [add_zero']; exact hc.get hw
    have hfit' : m * i.size + news.length ≤ cs.size := by rw [hk, hcs, ← Nat.add_mul]; exact Nat.mul_le_mul_right _ hroom
    have hr := run_append_room (P := P) w T t e i hT.h hi1 b m cap cs hw.mid ⟨b0, o0, none⟩ k c news hk hnews h1 hroom hfit'
    rw [hr]
    exact ⟨_, hw.turnAt rfl rfl rfl (setRow_heap w b cs _ e (0, 0) hw.mid) (fun q hq => setRow_other w b q _ hq), hK⟩
theorem ef_clear0 {T e : Nat} {x : Operand} {p : Option Addr} {c : Nat} [hT : Sl P T e] (hx : ev E x = some (.slice p 0 c)) (hK : K (.tuple #[]) L) : EF P W n L E ⟨d, .call ⟨.builtin .clear, #[x], #[T]⟩, t, pos, after, g⟩ K := by
  refine ⟨fun a w ha hw => ?_⟩
  have hrun : (execOp a.eval ⟨d, .call ⟨.builtin .clear, #[x], #[T]⟩, t, pos, after, g⟩).run P w = .ok (.value (.tuple #[])) w := by
    cases p <;> simp [execOp, resolve, invoke, builtin, ha.eval hx, Builtin.clear_, run_underlying hT.h]
  rw [hrun]
  exact ⟨_, hw, hK⟩
theorem ef_clear (A R : List Blk) {T e s bt : Nat} {z : Value} {x : Operand} {b o m c : Nat} {cs : Array Value} {T' : TypeId} [hT : Sl P T e] [hI : Inf P e z s bt]
    (hx : ev E x = some (.slice (some ⟨b, o, none⟩) m c)) (hL : L = A ++ (b, .cells cs T' (0, 0)) :: R) (hm : 0 < m) (hfit : o + m * s ≤ cs.size) (hz1 : z.cells.all (·.oneCell') = true)
    (hK : ∀ cs' : Array Value, cs'.size = cs.size → cs'.toList.take o = cs.toList.take o → K (.tuple #[]) (A ++ (b, .cells cs' T' (0, 0)) :: R)) : EF P W n L E ⟨d, .call ⟨.builtin .clear, #[x], #[T]⟩, t, pos, after, g⟩ K := by
  refine ⟨fun a w ha hw => ?_⟩
  obtain ⟨i, hi1, hi2, hi3, hi4, hzz⟩ := hI.h
  subst hL
  have h0 : (zeroValue e).run P w = .ok z w := by simp [zeroValue, typeInfo, hi1, hi2]
  have hzl : (Builtin.zeroCells z.cells m).toList.length = m * s := by rw [Array.length_toList, size_zeroCells, hzz]
  have hz1' : ∀ v ∈ (Builtin.zeroCells z.cells m).toList, v.oneCell' = true := fun v hv => by
    unfold Builtin.zeroCells at hv
    simp only [Array.toList_map, List.mem_map] at hv
    obtain ⟨j, hj, rfl⟩ := hv
    by_cases hs0 : z.cells.size = 0
    · exfalso
      rw [hs0] at hj; simp at hj
    · have : j % z.cells.size < z.cells.size := Nat.mod_lt _ (by omega)
      rw [getElem!_pos z.cells _ this]
      exact (Array.all_eq_true.1 hz1) _ this
  have hst := run_storeCells_at P b o T' (Builtin.zeroCells z.cells m).toList 0 cs w hw.mid (by rw [hzl]; omega) hz1'
  simp only [Nat.add_zero] at hst
  have hrun : (execOp a.eval ⟨d, .call ⟨.builtin .clear, #[x], #[T]⟩, t, pos, after, g⟩).run P w = .ok (.value (.tuple #[])) (w.setRow b (cs.toList.take o ++ (Builtin.zeroCells z.cells m).toList ++ cs.toList.drop (o + (Builtin.zeroCells z.cells m).toList.length)).toArray) := by
    obtain ⟨m', rfl⟩ : ∃ m', m = m' + 1 := ⟨m - 1, by omega⟩
    simp only [execOp, resolve, invoke, builtin, Builtin.clear_]
    simp [ha.eval hx, run_underlying hT.h, h0]
    rw [hst]
    simp
  rw [hrun]
  refine ⟨_, hw.turnAt rfl rfl rfl (setRow_heap w b cs _ T' (0, 0) hw.mid) (fun q hq => setRow_other w b q _ hq), hK _ ?_ ?_⟩
  · simp only [List.size_toArray, List.length_append, List.length_take, List.length_drop, Array.length_toList]
    rw [Array.length_toList] at hzl
    omega
  · rw [List.append_assoc, List.take_append_of_le_length (by rw [List.length_take, Array.length_toList]; omega), List.take_take, Nat.min_self]
/-- A function without a body, of which it is known what it gives. -/
theorem rd_callx {f : Nat} {args : List Operand} {ts : Array TypeId} {vs : List Value} {v : Value} (hf : ∀ w, (callFunc f vs.toArray).run P w = .ok (.value v) w) (h : evs E args = some vs) :
    RD P W n L E ⟨d, .call ⟨.value (.func f), args.toArray, ts⟩, t, pos, after, g⟩ v := .mk fun a w ha hw => by
  have he := ha.evals h
  have hv : a.eval (.func f) = .func (.func f) #[] #[] := rfl
  have hc := hf w
  simp only [execOp, resolve, hv]
  simp [Deferred.ofValue, invoke, he]
  simpa using hc

/-! ### maps whose keys are whole numbers -/
theorem er_map {α β : Type} (f : α → β) : ∀ (l : List α) (j : Nat), (l.map f).eraseIdx j = (l.eraseIdx j).map f
  | [], j => rfl
  | _ :: _, 0 => rfl
  | x :: r, j + 1 => congrArg (f x :: ·) (er_map f r j)
def mfind (l : List (Int × Value × Nat)) (n : Int) : Option Value := (l.find? (fun e => e.1 == n)).map (fun e => e.2.1)
def ments (k : IntKind) (l : List (Int × Value × Nat)) : Array MapEntry := (l.map fun e => (⟨.int k e.1, e.2.1, e.2.2⟩ : MapEntry)).toArray
/-- The block's content is a map; what it holds at a number, f tells. -/
def MpIs (k : IntKind) (o : Obj) (f : Int → Option Value) (sz : Nat) : Prop := ∃ l c, o = .map (ments k l) c ∧ (l.map (·.1)).Nodup ∧ l.length = sz ∧ (∀ n, mfind l n = f n) ∧ (l.map (·.2.2)).Nodup ∧ ∀ e, e ∈ l → e.2.2 < c
theorem MpIs.empty {k : IntKind} : MpIs k (.map #[] 0) (fun _ => none) 0 := ⟨[], 0, rfl, List.nodup_nil, rfl, fun n => rfl, List.nodup_nil, fun e h => by cases h⟩
def midx (l : List (Int × Value × Nat)) (n : Int) : Option (Nat × Value) := match l with
  | [] => none
  | e :: r => if e.1 = n then some (0, e.2.1) else (midx r n).map (fun x => (x.1 + 1, x.2))
theorem midx_find : ∀ (l : List (Int × Value × Nat)) (n : Int), (midx l n).map (·.2) = mfind l n
  | [], n => rfl
  | e :: r, n => by
    unfold midx mfind
    by_cases h : e.1 = n
    · simp [h]
    · have hb : (e.1 == n) = false := by simp [h]
      rw [if_neg h, List.find?_cons, hb]
      simp only [Option.map_map]
      have := midx_find r n
      unfold mfind at this
      rw [← this]; rfl
theorem findNow_midx (k : IntKind) (n : Int) : ∀ (l : List (Int × Value × Nat)) (i : Nat), Instr.findNow (.int k) (.int k n) (ments k l).toList i = some ((midx l n).map fun x => (i + x.1, x.2))
  | [], i => rfl
  | e :: r, i => by
    have ih := findNow_midx k n r (i + 1)
    simp only [ments] at ih ⊢
    simp only [List.map_cons, Instr.findNow, Instr.sameNow, if_true]
    by_cases h : e.1 = n
    · have : (n == e.1) = true := by simp [h]
      simp [this, midx, h]
    · have : (n == e.1) = false := by simp; exact fun e' => h e'.symm
      rw [this]
      simp only [midx, if_neg h]
      rw [ih]
      cases midx r n <;> simp [Nat.add_comm, Nat.add_left_comm]
theorem run_findKey {kt : Nat} {k : IntKind} [h : Ik P kt k] (n : Int) (l : List (Int × Value × Nat)) (w : World) : (Instr.findKey kt (.int k n) (ments k l).toList).run P w = .ok (midx l n) w := by
  simp only [Instr.findKey, Sem.run_bind, run_underlying h.h, Result.andThen_ok, findNow_midx]
  cases midx l n <;> simp
theorem run_checkKey {kt : Nat} {k : IntKind} [h : Ik P kt k] (b : Bool) (n : Int) (w : World) : (Instr.checkKey b 10000 kt (.int k n)).run P w = .ok () w := by
  show (Instr.checkKey b (9999 + 1) kt (.int k n)).run P w = _
  unfold Instr.checkKey
  simp only [Sem.run_bind, run_underlying h.h, Result.andThen_ok]
  rfl
theorem rd_lookup {T kt et r : Nat} {x y : Operand} {k : IntKind} {i : Int} {o : Obj} {f : Int → Option Value} {sz : Nat} {z : Value} [hT : Mp P T kt et] [hk : Ik P kt k] [h0 : T0 P et z] (hm : MpIs k o f sz) (hx : ev E x = some (.map (some r))) (hy : ev E y = some (.int k i)) (hKn : Kn W L r o) :
    RD P W n L E ⟨d, .lookup T x y false, t, pos, after, g⟩ ((f i).getD z) := .mk fun a w ha hw => by
  obtain ⟨l, c, rfl, hnd, hsz, hf, hbn, hbc⟩ := hm
  have h1 := hKn.get hw
  have h2 := run_checkKey (P := P) (kt := kt) (k := k) (ments k l).isEmpty i w
  have h3 := run_findKey (P := P) (kt := kt) (k := k) i l w
  have h4 := h0.h w
  have h5 : (getObj r).run P w = .ok (.map (ments k l) c) w := by simp [getObj, Sem.run, h1]
  rw [← hf i, ← midx_find]
  simp only [execOp, ha.eval hx, ha.eval hy, Instr.lookup, Sem.run_bind, run_underlying hT.h, Result.andThen_ok, h5, h2, h3]
  simp only [Sem.run_pure, Result.andThen_ok, Sem.run_bind, h2, h3]
  cases midx l i <;> simp [h4]
theorem rd_lookupOk {T kt et r : Nat} {x y : Operand} {k : IntKind} {i : Int} {o : Obj} {f : Int → Option Value} {sz : Nat} {z : Value} [hT : Mp P T kt et] [hk : Ik P kt k] [h0 : T0 P et z] (hm : MpIs k o f sz) (hx : ev E x = some (.map (some r))) (hy : ev E y = some (.int k i)) (hKn : Kn W L r o) :
    RD P W n L E ⟨d, .lookup T x y true, t, pos, after, g⟩ (.tuple #[(f i).getD z, .bool (f i).isSome]) := .mk fun a w ha hw => by
  obtain ⟨l, c, rfl, hnd, hsz, hf, hbn, hbc⟩ := hm
  have h1 := hKn.get hw
  have h2 := run_checkKey (P := P) (kt := kt) (k := k) (ments k l).isEmpty i w
  have h3 := run_findKey (P := P) (kt := kt) (k := k) i l w
  have h4 := h0.h w
  have h5 : (getObj r).run P w = .ok (.map (ments k l) c) w := by simp [getObj, Sem.run, h1]
  rw [← hf i, ← midx_find]
  simp only [execOp, ha.eval hx, ha.eval hy, Instr.lookup, Sem.run_bind, run_underlying hT.h, Result.andThen_ok, h5, h2, h3]
  simp only [Sem.run_pure, Result.andThen_ok, Sem.run_bind, h2, h3]
  cases midx l i <;> simp [h4]
theorem rd_lenMap {T kt et r : Nat} {x : Operand} {k : IntKind} {o : Obj} {f : Int → Option Value} {sz : Nat} [hT : Mp P T kt et] (hm : MpIs k o f sz) (hx : ev E x = some (.map (some r))) (hKn : Kn W L r o) :
    RD P W n L E ⟨d, .call ⟨.builtin .len, #[x], #[T]⟩, t, pos, after, g⟩ (.int .i64 sz) := .mk fun a w ha hw => by
  obtain ⟨l, c, rfl, hnd, hsz, hf, hbn, hbc⟩ := hm
  have h5 : (getObj r).run P w = .ok (.map (ments k l) c) w := by simp [getObj, Sem.run, hKn.get hw]
  simp [execOp, resolve, invoke, builtin, ha.eval hx, Builtin.len_, run_underlying hT.h, h5, goInt, ments, hsz]
def mupd (f : Int → Option Value) (n : Int) (v : Option Value) : Int → Option Value := fun m => if m = n then v else f m
theorem midx_some : ∀ (l : List (Int × Value × Nat)) (n : Int) (i : Nat) (v : Value), midx l n = some (i, v) → ∃ b, l[i]? = some (n, v, b)
  | e :: r, n, i, v, h => by
    unfold midx at h
    split at h
    · rename_i he
      simp only [Option.some.injEq, Prod.mk.injEq] at h
      obtain ⟨rfl, rfl⟩ := h
      exact ⟨e.2.2, by subst he; rfl⟩
    · cases hm : midx r n with
      | none => rw [hm] at h; cases h
      | some x =>
        rw [hm] at h
        simp only [Option.map_some, Option.some.injEq, Prod.mk.injEq] at h
        obtain ⟨rfl, rfl⟩ := h
        obtain ⟨b, hb⟩ := midx_some r n x.1 x.2 hm
        exact ⟨b, by simpa using hb⟩
theorem midx_none : ∀ (l : List (Int × Value × Nat)) (n : Int), midx l n = none → n ∉ l.map (·.1)
  | [], n, _ => by simp
  | e :: r, n, h => by
    unfold midx at h
    split at h
    · cases h
    · rename_i he
      simp only [Option.map_eq_none_iff] at h
      simp only [List.map_cons, List.mem_cons, not_or]
      exact ⟨fun e' => he e'.symm, midx_none r n h⟩
theorem mfind_cons (e : Int × Value × Nat) (r : List (Int × Value × Nat)) (m : Int) : mfind (e :: r) m = if m = e.1 then some e.2.1 else mfind r m := by
  unfold mfind
  by_cases h : m = e.1
  · subst h; simp
  · have : (e.1 == m) = false := by simp; exact fun e' => h e'.symm
    rw [List.find?_cons, this, if_neg h]
theorem mfind_set : ∀ (l : List (Int × Value × Nat)) (n : Int) (i : Nat) (v u : Value) (b b' : Nat), (l.map (·.1)).Nodup → l[i]? = some (n, v, b) → ∀ m, mfind (l.set i (n, u, b')) m = if m = n then some u else mfind l m
  | e :: r, n, 0, v, u, b, b', hn, h, m => by
    simp only [List.getElem?_cons_zero, Option.some.injEq] at h
    subst h
    rw [List.set_cons_zero, mfind_cons, mfind_cons]
    by_cases hm : m = n <;> simp [hm]
  | e :: r, n, i + 1, v, u, b, b', hn, h, m => by
    rw [List.map_cons, List.nodup_cons] at hn
    rw [List.set_cons_succ, mfind_cons, mfind_cons, mfind_set r n i v u b b' hn.2 (by simpa using h) m]
    have : n ∈ r.map (·.1) := List.mem_map.2 ⟨_, List.mem_of_getElem? (by simpa using h), rfl⟩
    by_cases h1 : m = e.1
    · subst h1
      have : ¬ e.1 = n := fun e' => hn.1 (e' ▸ this)
      simp [this]
    · simp [h1]
theorem mfind_push : ∀ (l : List (Int × Value × Nat)) (n : Int) (u : Value) (b : Nat), n ∉ l.map (·.1) → ∀ m, mfind (l ++ [(n, u, b)]) m = if m = n then some u else mfind l m
  | [], n, u, b, h, m => by rw [List.nil_append, mfind_cons]
  | e :: r, n, u, b, h, m => by
    simp only [List.map_cons, List.mem_cons, not_or] at h
    rw [List.cons_append, mfind_cons, mfind_cons, mfind_push r n u b h.2 m]
    by_cases h1 : m = e.1
    · subst h1
      have : ¬ e.1 = n := fun e' => h.1 e'.symm
      simp [this]
    · simp [h1]
theorem mfind_erase : ∀ (l : List (Int × Value × Nat)) (n : Int) (i : Nat) (v : Value) (b : Nat), (l.map (·.1)).Nodup → l[i]? = some (n, v, b) → ∀ m, mfind (l.eraseIdx i) m = if m = n then none else mfind l m
  | e :: r, n, 0, v, b, hn, h, m => by
    simp only [List.getElem?_cons_zero, Option.some.injEq] at h
    subst h
    rw [List.map_cons, List.nodup_cons] at hn
    rw [List.eraseIdx_cons_zero, mfind_cons]
    by_cases hm : m = n
    · subst hm
      simp only [if_true]
      unfold mfind
      rw [Option.map_eq_none_iff, List.find?_eq_none]
      intro x hx hxm
      exact hn.1 (List.mem_map.2 ⟨x, hx, by simpa using hxm⟩)
    · simp [hm]
  | e :: r, n, i + 1, v, b, hn, h, m => by
    rw [List.map_cons, List.nodup_cons] at hn
    rw [List.eraseIdx_cons_succ, mfind_cons, mfind_cons, mfind_erase r n i v b hn.2 (by simpa using h) m]
    have : n ∈ r.map (·.1) := List.mem_map.2 ⟨_, List.mem_of_getElem? (by simpa using h), rfl⟩
    by_cases h1 : m = e.1
    · subst h1
      have : ¬ e.1 = n := fun e' => hn.1 (e' ▸ this)
      simp [this]
    · simp [h1]
theorem born_push {l : List (Int × Value × Nat)} {c : Nat} {i : Int} {v : Value} (h : (l.map (·.2.2)).Nodup) (hc : ∀ e, e ∈ l → e.2.2 < c) : ((l ++ [(i, v, c)]).map (·.2.2)).Nodup := by
  rw [List.map_append]
  refine List.nodup_append.2 ⟨h, by simp, ?_⟩
  intro a ha b hb e
  simp only [List.map_cons, List.map_nil, List.mem_singleton] at hb
  subst hb; subst e
  obtain ⟨x, hx, hxe⟩ := List.mem_map.1 ha
  have := hc x hx
  omega
theorem born_lt {l : List (Int × Value × Nat)} {c : Nat} {i : Int} {v : Value} (hc : ∀ e, e ∈ l → e.2.2 < c) : ∀ e, e ∈ l ++ [(i, v, c)] → e.2.2 < c + 1 := fun e he => by
  rcases List.mem_append.1 he with he | he
  · have := hc e he; omega
  · rw [List.mem_singleton] at he; subst he; exact Nat.lt_succ_self _
theorem born_set {l : List (Int × Value × Nat)} {i : Int} {v u : Value} {b j : Nat} (hb : l[j]? = some (i, v, b)) (h : (l.map (·.2.2)).Nodup) : ((l.set j (i, u, b)).map (·.2.2)).Nodup := by
  have : (l.set j (i, u, b)).map (·.2.2) = l.map (·.2.2) := by
    apply List.ext_getElem?
    intro q
    simp only [List.getElem?_map, List.getElem?_set]
    by_cases hq : j = q
    · subst hq
      obtain ⟨hj, hv⟩ := List.getElem?_eq_some_iff.1 hb
      simp [hv, hj]
    · simp [hq]
  rw [this]; exact h
theorem sameBits_int (f : Nat) (k : IntKind) (a : Int) : Instr.sameBits f (.int k a) (.int k a) = true := by
  cases f <;> simp [Instr.sameBits]
theorem ef_mapUpdate (A R : List Blk) {T kt et r : Nat} {x y u : Operand} {k : IntKind} {i : Int} {v : Value} {o : Obj} {f : Int → Option Value} {sz : Nat} [hT : Mp P T kt et] [hk : Ik P kt k] (hm : MpIs k o f sz) (hx : ev E x = some (.map (some r))) (hy : ev E y = some (.int k i)) (hu : ev E u = some v)
    (hL : L = A ++ (r, o) :: R) (hK : ∀ o', MpIs k o' (mupd f i (some v)) (if (f i).isSome then sz else sz + 1) → K undef (A ++ (r, o') :: R)) : EF P W n L E ⟨d, .mapUpdate T x y u, t, pos, after, g⟩ K := by
  refine ⟨fun a w ha hw => ?_⟩
  obtain ⟨l, c, rfl, hnd, hsz, hf, hbn, hbc⟩ := hm
  subst hL
  have h1 := hw.mid
  have h2 := run_checkKey (P := P) (kt := kt) (k := k) false i w
  have h3 := run_findKey (P := P) (kt := kt) (k := k) i l w
  have h5 : (getObj r).run P w = .ok (.map (ments k l) c) w := by simp [getObj, Sem.run, h1]
  have hset : ∀ o', (setObj r o').run P w = .ok () { w with heap := w.heap.setIfInBounds r o' } := fun o' => by simp [setObj, Sem.run, h1]
  have hlt : r < w.heap.size := (Array.getElem?_eq_some_iff.1 h1).1
  have hturn : ∀ o', Hp W { w with heap := w.heap.setIfInBounds r o' } (A ++ (r, o') :: R) := fun o' =>
    hw.turnAt rfl rfl rfl (Array.getElem?_setIfInBounds_self_of_lt hlt) (fun q hq => Array.getElem?_setIfInBounds_ne (Ne.symm hq))
  have hrun : (execOp a.eval ⟨d, .mapUpdate T x y u, t, pos, after, g⟩).run P w = ((Instr.mapUpdate T (.map (some r)) (.int k i) v).run P w).andThen fun _ w' => .ok .skip w' := by
    simp [execOp, ha.eval hx, ha.eval hy, ha.eval hu]
  rw [hrun]
  simp only [Instr.mapUpdate, Sem.run_bind, run_underlying hT.h, Result.andThen_ok, h5, h2, h3]
  have hfi := hf i
  rw [← midx_find] at hfi
  cases hmi : midx l i with
  | none =>
    rw [hmi] at hfi
    simp only [hset, Result.andThen_ok]
    refine ⟨_, hturn _, hK _ ⟨l ++ [(i, v, c)], c + 1, ?_, ?_, ?_, fun m => ?_, born_push hbn hbc, born_lt hbc⟩⟩
    · simp [ments]
    · rw [List.map_append, List.map_cons, List.map_nil]
      exact List.nodup_append.2 ⟨hnd, by simp, by
        intro a ha b hb e
        simp only [List.mem_singleton] at hb
        subst hb; subst e
        exact midx_none l _ hmi ha⟩
    · simp only [Option.map_none] at hfi
      rw [← hfi]; simp [hsz]
    · rw [mfind_push l i v c (midx_none l i hmi) m, hf m]; rfl
  | some q =>
    obtain ⟨j, v0⟩ := q
    rw [hmi] at hfi
    obtain ⟨b, hb⟩ := midx_some l i j v0 hmi
    have hes : (ments k l)[j]? = some ⟨.int k i, v0, b⟩ := by simp [ments, hb]
    have hkt : (Instr.keyThatStays (((ments k l)[j]?.map (·.key)).getD (.int k i)) (.int k i)).run P w = .ok (.int k i) w := by
      rw [hes]
      simp [Instr.keyThatStays, sameBits_int]
    simp only [Sem.run_bind, hkt, Result.andThen_ok, hset]
    refine ⟨_, hturn _, hK _ ⟨l.set j (i, v, b), c, ?_, ?_, ?_, fun m => ?_, born_set hb hbn, fun e he => ?_⟩⟩
    · congr 1
      apply Array.ext'
      simp only [ments, Array.toList_modify]
      apply List.ext_getElem?
      intro q
      simp only [List.getElem?_modify, List.getElem?_map, List.getElem?_set]
      by_cases hq : j = q
      · subst hq
        obtain ⟨hj, hv⟩ := List.getElem?_eq_some_iff.1 hb
        simp [hv, hj]
      · simp [hq]
    · have : (l.set j (i, v, b)).map (·.1) = l.map (·.1) := by
        apply List.ext_getElem?
        intro q
        simp only [List.getElem?_map, List.getElem?_set]
        by_cases hq : j = q
        · subst hq
          obtain ⟨hj, hv⟩ := List.getElem?_eq_some_iff.1 hb
          simp [hv, hj]
        · simp [hq]
      rw [this]; exact hnd
    · simp only [Option.map_some] at hfi
      rw [← hfi]; simp [hsz]
    · rw [mfind_set l i j v0 v b b hnd hb m, hf m]; rfl
    · rcases List.mem_or_eq_of_mem_set he with he | rfl
      · exact hbc e he
      · exact (show b < c from hbc (i, v0, b) (List.mem_of_getElem? hb))
theorem ef_delete (A R : List Blk) {T T' kt et r : Nat} {x y : Operand} {k : IntKind} {i : Int} {o : Obj} {f : Int → Option Value} {sz : Nat} [hT : Mp P T kt et] [hk : Ik P kt k] (hm : MpIs k o f sz) (hx : ev E x = some (.map (some r))) (hy : ev E y = some (.int k i))
    (hL : L = A ++ (r, o) :: R) (hK : ∀ o', MpIs k o' (mupd f i none) (if (f i).isSome then sz - 1 else sz) → K (.tuple #[]) (A ++ (r, o') :: R)) : EF P W n L E ⟨d, .call ⟨.builtin .delete, #[x, y], #[T, T']⟩, t, pos, after, g⟩ K := by
  refine ⟨fun a w ha hw => ?_⟩
  obtain ⟨l, c, rfl, hnd, hsz, hf, hbn, hbc⟩ := hm
  subst hL
  have h1 := hw.mid
  have h2 := run_checkKey (P := P) (kt := kt) (k := k) (ments k l).isEmpty i w
  have h3 := run_findKey (P := P) (kt := kt) (k := k) i l w
  have h5 : (getObj r).run P w = .ok (.map (ments k l) c) w := by simp [getObj, Sem.run, h1]
  have hset : ∀ o', (setObj r o').run P w = .ok () { w with heap := w.heap.setIfInBounds r o' } := fun o' => by simp [setObj, Sem.run, h1]
  have hlt : r < w.heap.size := (Array.getElem?_eq_some_iff.1 h1).1
  have hturn : ∀ o', Hp W { w with heap := w.heap.setIfInBounds r o' } (A ++ (r, o') :: R) := fun o' =>
    hw.turnAt rfl rfl rfl (Array.getElem?_setIfInBounds_self_of_lt hlt) (fun q hq => Array.getElem?_setIfInBounds_ne (Ne.symm hq))
  have hrun : (execOp a.eval ⟨d, .call ⟨.builtin .delete, #[x, y], #[T, T']⟩, t, pos, after, g⟩).run P w = ((Builtin.delete_ #[T, T'] t #[.map (some r), .int k i]).run P w).andThen fun v w' => .ok (.value v) w' := by
    simp [execOp, resolve, invoke, builtin, ha.eval hx, ha.eval hy]
  rw [hrun]
  have hfi := hf i
  rw [← midx_find] at hfi
  simp only [Builtin.delete_]
  simp only [List.getElem?_toArray, List.getElem?_cons_zero, List.getElem?_cons_succ, Sem.run_bind, run_underlying hT.h, Result.andThen_ok, h5, h2, h3]
  cases hmi : midx l i with
  | none =>
    rw [hmi] at hfi
    simp only [Sem.run_bind, hset, Result.andThen_ok, Sem.run_pure]
    refine ⟨_, hturn _, hK _ ⟨l, c, rfl, hnd, ?_, fun m => ?_, hbn, hbc⟩⟩
    · simp only [Option.map_none] at hfi
      rw [← hfi]; simp [hsz]
    · unfold mupd
      by_cases hmn : m = i
      · subst hmn
        rw [if_pos rfl, ← midx_find, hmi]; rfl
      · rw [if_neg hmn, hf m]
  | some q =>
    obtain ⟨j, v0⟩ := q
    rw [hmi] at hfi
    obtain ⟨b, hb⟩ := midx_some l i j v0 hmi
    have hj := (List.getElem?_eq_some_iff.1 hb).1
    simp only [Sem.run_bind, hset, Result.andThen_ok, Sem.run_pure]
    refine ⟨_, hturn _, hK _ ⟨l.eraseIdx j, c, ?_, ?_, ?_, fun m => ?_, hbn.sublist ((List.eraseIdx_sublist _ _).map _), fun e he => hbc e (List.mem_of_mem_eraseIdx he)⟩⟩
    · congr 1
      apply Array.ext'
      rw [Array.eraseIdxIfInBounds, dif_pos (by simpa [ments] using hj)]
      simp [ments, er_map]
    · rw [← er_map]
      exact hnd.sublist (List.eraseIdx_sublist _ _)
    · simp only [Option.map_some] at hfi
      rw [← hfi, List.length_eraseIdx, if_pos hj]; simp [hsz]
    · rw [mfind_erase l i j v0 b hnd hb m, hf m]; rfl
/-- An entry is there, and which stamp it bears. -/
def MpEn (k : IntKind) (o : Obj) (f : Int → Option Value) (sz : Nat) (i : Int) (st : Nat) : Prop := ∃ (l : List (Int × Value × Nat)) (c : Nat), o = .map (ments k l) c ∧ (l.map (·.1)).Nodup ∧ l.length = sz ∧ (∀ n, mfind l n = f n) ∧ (l.map (·.2.2)).Nodup ∧ (∀ e, e ∈ l → e.2.2 < c) ∧ ∃ (v : Value) (j : Nat), l[j]? = some (i, v, st)
theorem ef_mapEntry (A R : List Blk) {T kt et r : Nat} {x y : Operand} {k : IntKind} {i : Int} {o : Obj} {f : Int → Option Value} {sz : Nat} {z : Value} [hT : Mp P T kt et] [hk : Ik P kt k] [h0 : T0 P et z] (hm : MpIs k o f sz) (hx : ev E x = some (.map (some r))) (hy : ev E y = some (.int k i))
    (hL : L = A ++ (r, o) :: R) (hK : ∀ (st : Nat) o', MpEn k o' (mupd f i (some ((f i).getD z))) (if (f i).isSome then sz else sz + 1) i st → K (.tuple #[(f i).getD z, .int .i64 st]) (A ++ (r, o') :: R)) : EF P W n L E ⟨d, .mapEntry T x y, t, pos, after, g⟩ K := by
  refine ⟨fun a w ha hw => ?_⟩
  obtain ⟨l, c, rfl, hnd, hsz, hf, hbn, hbc⟩ := hm
  subst hL
  have h1 := hw.mid
  have h2 := run_checkKey (P := P) (kt := kt) (k := k) false i w
  have h3 := run_findKey (P := P) (kt := kt) (k := k) i l w
  have h4 := h0.h w
  have h5 : (getObj r).run P w = .ok (.map (ments k l) c) w := by simp [getObj, Sem.run, h1]
  have hset : ∀ o', (setObj r o').run P w = .ok () { w with heap := w.heap.setIfInBounds r o' } := fun o' => by simp [setObj, Sem.run, h1]
  have hlt : r < w.heap.size := (Array.getElem?_eq_some_iff.1 h1).1
  have hturn : ∀ o', Hp W { w with heap := w.heap.setIfInBounds r o' } (A ++ (r, o') :: R) := fun o' =>
    hw.turnAt rfl rfl rfl (Array.getElem?_setIfInBounds_self_of_lt hlt) (fun q hq => Array.getElem?_setIfInBounds_ne (Ne.symm hq))
  have hrun : (execOp a.eval ⟨d, .mapEntry T x y, t, pos, after, g⟩).run P w = ((Instr.mapEntry T (.map (some r)) (.int k i)).run P w).andThen fun v w' => .ok (.value v) w' := by
    simp [execOp, ha.eval hx, ha.eval hy]
  rw [hrun]
  simp only [Instr.mapEntry, Sem.run_bind, run_underlying hT.h, Result.andThen_ok, h5, h2, h3]
  have hfi := hf i
  rw [← midx_find] at hfi
  cases hmi : midx l i with
  | none =>
    rw [hmi] at hfi
    simp only [Option.map_none] at hfi
    simp only [Sem.run_bind, h4, hset, Result.andThen_ok, Sem.run_pure]
    have hk1 := hK c (.map (ments k (l ++ [(i, z, c)])) (c + 1)) ⟨l ++ [(i, z, c)], c + 1, rfl, ?_, ?_, fun m => ?_, born_push hbn hbc, born_lt hbc, z, l.length, by simp⟩
    · have hments : (ments k l).push ⟨.int k i, z, c⟩ = ments k (l ++ [(i, z, c)]) := by simp [ments]
      rw [hments]
      rw [← hfi] at hk1
      exact ⟨_, hturn _, hk1⟩
    · rw [List.map_append, List.map_cons, List.map_nil]
      exact List.nodup_append.2 ⟨hnd, by simp, by
        intro a ha b hb e
        simp only [List.mem_singleton] at hb
        subst hb; subst e
        exact midx_none l _ hmi ha⟩
    · rw [← hfi]; simp [hsz]
    · rw [mfind_push l i z c (midx_none l i hmi) m, hf m, ← hfi]; rfl
  | some q =>
    obtain ⟨j, v0⟩ := q
    rw [hmi] at hfi
    simp only [Option.map_some] at hfi
    obtain ⟨b, hb⟩ := midx_some l i j v0 hmi
    have hes : (ments k l)[j]? = some ⟨.int k i, v0, b⟩ := by simp [ments, hb]
    have hkt : (Instr.keyThatStays (((ments k l)[j]?.map (·.key)).getD (.int k i)) (.int k i)).run P w = .ok (.int k i) w := by
      rw [hes]
      simp [Instr.keyThatStays, sameBits_int]
    have hgb : ((ments k l)[j]?.map (fun x => (x.born : Int))).getD 0 = (b : Int) := by rw [hes]; rfl
    simp only [Sem.run_bind, hkt, Result.andThen_ok, hset, Sem.run_pure, hgb]
    have hk1 := hK b (.map (ments k (l.set j (i, v0, b))) c) ⟨l.set j (i, v0, b), c, rfl, ?_, ?_, fun m => ?_, born_set hb hbn, fun e he => ?_, v0, j, ?_⟩
    · rw [← hfi] at hk1
      have hments : (ments k l).modify j (fun e => { e with key := .int k i }) = ments k (l.set j (i, v0, b)) := by
        apply Array.ext'
        simp only [ments, Array.toList_modify]
        apply List.ext_getElem?
        intro q
        simp only [List.getElem?_modify, List.getElem?_map, List.getElem?_set]
        by_cases hq : j = q
        · subst hq
          obtain ⟨hj, hv⟩ := List.getElem?_eq_some_iff.1 hb
          simp [hv, hj]
        · simp [hq]
      rw [hments]
      exact ⟨_, hturn _, hk1⟩
    · have : (l.set j (i, v0, b)).map (·.1) = l.map (·.1) := by
        apply List.ext_getElem?
        intro q
        simp only [List.getElem?_map, List.getElem?_set]
        by_cases hq : j = q
        · subst hq
          obtain ⟨hj, hv⟩ := List.getElem?_eq_some_iff.1 hb
          simp [hv, hj]
        · simp [hq]
      rw [this]; exact hnd
    · rw [← hfi]; simp [hsz]
    · rw [mfind_set l i j v0 v0 b b hnd hb m, hf m, ← hfi]; rfl
    · rcases List.mem_or_eq_of_mem_set he with he | rfl
      · exact hbc e he
      · exact (show b < c from hbc (i, v0, b) (List.mem_of_getElem? hb))
    · have hj := (List.getElem?_eq_some_iff.1 hb).1
      simp [hj]
theorem ef_entryStore (A R : List Blk) {T r : Nat} {x s u : Operand} {k : IntKind} {i : Int} {st : Nat} {v : Value} {o : Obj} {f : Int → Option Value} {sz : Nat} (hm : MpEn k o f sz i st) (hx : ev E x = some (.map (some r))) (hs : ev E s = some (.int .i64 st)) (hu : ev E u = some v)
    (hL : L = A ++ (r, o) :: R) (hK : ∀ o', MpIs k o' (mupd f i (some v)) sz → K undef (A ++ (r, o') :: R)) : EF P W n L E ⟨d, .entryStore T x s u, t, pos, after, g⟩ K := by
  refine ⟨fun a w ha hw => ?_⟩
  obtain ⟨l, c, rfl, hnd, hsz, hf, hbn, hbc, v0, j, hj⟩ := hm
  subst hL
  have h1 := hw.mid
  have h5 : (getObj r).run P w = .ok (.map (ments k l) c) w := by simp [getObj, Sem.run, h1]
  have hset : ∀ o', (setObj r o').run P w = .ok () { w with heap := w.heap.setIfInBounds r o' } := fun o' => by simp [setObj, Sem.run, h1]
  have hlt : r < w.heap.size := (Array.getElem?_eq_some_iff.1 h1).1
  have hturn : ∀ o', Hp W { w with heap := w.heap.setIfInBounds r o' } (A ++ (r, o') :: R) := fun o' =>
    hw.turnAt rfl rfl rfl (Array.getElem?_setIfInBounds_self_of_lt hlt) (fun q hq => Array.getElem?_setIfInBounds_ne (Ne.symm hq))
  have hjl := (List.getElem?_eq_some_iff.1 hj).1
  have hfind : (ments k l).findIdx? (fun e => (e.born : Int) == (st : Int)) = some j := by
    unfold ments
    rw [List.findIdx?_toArray, List.findIdx?_eq_some_iff_getElem]
    refine ⟨by simpa using hjl, ?_, fun q hq => ?_⟩
    · have := (List.getElem?_eq_some_iff.1 hj).2
      simp [this]
    · have hd := List.pairwise_iff_getElem.1 hbn q j (by simp; omega) (by simpa using hjl) hq
      have := (List.getElem?_eq_some_iff.1 hj).2
      simp only [List.getElem_map, this] at hd
      simp only [List.getElem_map]
      simpa using fun e : ((l[q]'(by omega)).2.2 : Int) = st => hd (by omega)
  have hrun : (execOp a.eval ⟨d, .entryStore T x s u, t, pos, after, g⟩).run P w = .ok .skip { w with heap := w.heap.setIfInBounds r (.map ((ments k l).modify j fun e => { e with val := v }) c) } := by
    simp [execOp, ha.eval hx, ha.eval hs, ha.eval hu, Instr.entryStore, h5, asInt, asIntOf, hfind, hset]
  rw [hrun]
  have hments : (ments k l).modify j (fun e => { e with val := v }) = ments k (l.set j (i, v, st)) := by
    apply Array.ext'
    simp only [ments, Array.toList_modify]
    apply List.ext_getElem?
    intro q
    simp only [List.getElem?_modify, List.getElem?_map, List.getElem?_set]
    by_cases hq : j = q
    · subst hq
      obtain ⟨hj', hv⟩ := List.getElem?_eq_some_iff.1 hj
      simp [hv, hj']
    · simp [hq]
  rw [hments]
  refine ⟨_, hturn _, hK _ ⟨l.set j (i, v, st), c, rfl, ?_, by simp [hsz], fun m => ?_, born_set hj hbn, fun e he => ?_⟩⟩
  · have : (l.set j (i, v, st)).map (·.1) = l.map (·.1) := by
      apply List.ext_getElem?
      intro q
      simp only [List.getElem?_map, List.getElem?_set]
      by_cases hq : j = q
      · subst hq
        obtain ⟨hj', hv⟩ := List.getElem?_eq_some_iff.1 hj
        simp [hv, hj']
      · simp [hq]
    rw [this]; exact hnd
  · rw [mfind_set l i j v0 v st st hnd hj m, hf m]; rfl
  · rcases List.mem_or_eq_of_mem_set he with he | rfl
    · exact hbc e he
    · exact (show st < c from hbc (i, v0, st) (List.mem_of_getElem? hj))
end
end Go.Proofs.Ytoolgphkfnkajaa.X
