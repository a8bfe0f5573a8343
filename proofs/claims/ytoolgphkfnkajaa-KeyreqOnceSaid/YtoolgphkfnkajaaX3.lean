/-
  Words of my own for walks, third part: operations that make or write memory, calls, append, and regions whose order is open. No condition; generic over the program.
-/
import Derived.Test.YtoolgphkfnkajaaX2
import Derived.Laws.AppendOwn
import Derived.Laws.CopyRow
namespace Go.Proofs.Ytoolgphkfnkajaa.X
open Go Go.RowKit
set_option linter.unusedVariables false
set_option linter.unusedSimpArgs false

class Inf (P : Program) (T : Nat) (z : outParam Value) (s b : outParam Nat) : Prop where h : ∃ i, P.info? T = some i ∧ i.zero = some z ∧ i.size = s ∧ i.bytes = b ∧ z.cells.size = s
instance {P : Program} {T s b : Nat} {z : Value} [h : Inf P T z s b] : Ts P T s := ⟨fun w => by obtain ⟨i, h1, h2, h3, h4, _⟩ := h.h; simp [sizeOf, typeInfo, h1, h3]⟩
instance {P : Program} {T s b : Nat} {z : Value} [h : Inf P T z s b] : T0 P T z := ⟨fun w => by obtain ⟨i, h1, h2, h3, h4, _⟩ := h.h; simp [zeroValue, typeInfo, h1, h2]⟩

theorem Hp.turnAt {W w w' : World} {b : Nat} {o o' : Obj} {A R : List Blk} (h : Hp W w (A ++ (b, o) :: R)) (hos : w'.os = w.os) (ht : w'.tape = w.tape) (hout : w'.output = w.output)
    (hb : w'.heap[b]? = some o') (hk : ∀ k, k ≠ b → w'.heap[k]? = w.heap[k]?) : Hp W w' (A ++ (b, o') :: R) :=
  ((h.perm List.perm_middle).turn hos ht hout hb hk).perm List.perm_middle.symm
theorem Hp.mid {W w : World} {b : Nat} {o : Obj} {A R : List Blk} (h : Hp W w (A ++ (b, o) :: R)) : w.heap[b]? = some o := h.own (b, o) (by simp)

section
variable {P : Program} {W : World} {n : Nat} {L : List Blk} {E : List (Nat × Value)} {d : Option Nat} {t : TypeId} {pos : String} {after : Array Edge} {g : Option (Nat × Bool)} {K : Value → List Blk → Prop}

theorem ef_of_new {o : Oper} {v : Nat → Value} {ob : Obj} (h : ∀ a w, Env n a E → Hp W w L → (execOp a.eval o).run P w = .ok (.value (v w.heap.size)) { w with heap := w.heap.push ob }) (hk : ∀ r, K (v r) ((r, ob) :: L)) : EF P W n L E o K := by
  refine ⟨fun a w ha hw => ?_⟩
  rw [h a w ha hw]
  exact ⟨_, hw.alloc ob, hk _⟩
theorem ef_rd {o : Oper} {v : Value} (h : RD P W n L E o v) (hk : K v L) : EF P W n L E o K := by
  refine ⟨fun a w ha hw => ?_⟩
  rw [h.run a w ha hw]
  exact ⟨_, hw, hk⟩
theorem ef_alloc {T : Nat} {z : Value} [hT : T0 P T z] (hk : ∀ r, K (.pointer (some ⟨r, 0, none⟩)) ((r, .cells z.cells T (0, 0)) :: L)) : EF P W n L E ⟨d, .alloc T, t, pos, after, g⟩ K :=
  ef_of_new (v := fun r => .pointer (some ⟨r, 0, none⟩)) (fun a w ha hw => by
    have h0 := hT.h w
    simp [execOp, Instr.alloc, h0, newVar, newRow]) hk
theorem ef_box {T : Nat} {x : Operand} {v : Value} (hx : ev E x = some v) (hk : ∀ r, K (.pointer (some ⟨r, 0, none⟩)) ((r, .cells v.cells T (0, 0)) :: L)) : EF P W n L E ⟨d, .box T x, t, pos, after, g⟩ K :=
  ef_of_new (v := fun r => .pointer (some ⟨r, 0, none⟩)) (fun a w ha hw => by
    simp [execOp, Instr.box, ha.eval hx, newVar, newRow]) hk
theorem ef_makeMap {T : Nat} (hk : ∀ r, K (.map (some r)) ((r, .map #[] 0) :: L)) : EF P W n L E ⟨d, .makeMap T none, t, pos, after, g⟩ K :=
  ef_of_new (v := fun r => .map (some r)) (fun a w ha hw => by
    simp [execOp, Instr.makeMap]) hk
/-- One cell is written. -/
theorem ef_store1 (A R : List Blk) {T T' m b i : Nat} {x y : Operand} {u v : Value} {vs : List Value} [hS : Ts P T m] (hx : ev E x = some (.pointer (some ⟨b, i, none⟩))) (hy : ev E y = some v) (h1 : v.oneCell' = true) (hm : m = 1)
    (hL : L = A ++ (b, .cells vs.toArray T' (0, 0)) :: R) (hi : vs[i]? = some u) (hk : K undef (A ++ (b, .cells (vs.set i v).toArray T' (0, 0)) :: R)) : EF P W n L E ⟨d, .store T x y, t, pos, after, g⟩ K := by
  refine ⟨fun a w ha hw => ?_⟩
  subst hm
  rw [← List.setIfInBounds_toArray] at hk
  obtain ⟨cs, hcs⟩ : ∃ cs : Array Value, cs = vs.toArray := ⟨_, rfl⟩
  have hi : cs[i]? = some u := by rw [hcs]; simpa using hi
  rw [← hcs] at hL hk
  have hB := hS.h w
  subst hL
  have hc : w.cell? ⟨b, i, none⟩ = some u := by simp [World.cell?, hw.mid, hi]
  have hf : w.frozen? ⟨b, i, none⟩ = false := by simp [World.frozen?, hw.mid]
  have hcl : v.cells = #[v] := by cases v <;> first | rfl | cases h1
  have hadd : (⟨b, i, none⟩ : Addr).add 0 = ⟨b, i, none⟩ := rfl
  have hst := run_store P w ⟨b, i, none⟩ v .plain h1
  rw [hc] at hst
  simp only [hf] at hst
  have hrun : (execOp a.eval ⟨d, .store T x y, t, pos, after, g⟩).run P w = .ok .skip (w.setCell ⟨b, i, none⟩ v) := by
    simp only [execOp, ha.eval hx, ha.eval hy, Instr.storeAt, Instr.sureAddr, storeVar, hcl, Sem.run_bind, Sem.run_pure, Result.andThen_ok, hB]
    simp only [storeCells, hadd, Sem.run_bind, hst]
    simp [storeCells]
    rw [hst]; simp [storeCells]
  rw [hrun, setCell_eq_setRow w b i cs T' (0, 0) v hw.mid]
  exact ⟨_, hw.turnAt rfl rfl rfl (setRow_heap w b cs _ T' (0, 0) hw.mid) (fun k hk => setRow_other w b k _ hk), hk⟩
/-- A value of several cells is written. -/
theorem ef_storeN (A R : List Blk) {T T' m b i : Nat} {x y : Operand} {vs : List Value} {cs : Array Value} [hS : Ts P T m] (hx : ev E x = some (.pointer (some ⟨b, i, none⟩))) (hy : ev E y = some (.agg vs.toArray)) (h1a : vs.all (·.oneCell') = true) (hm : vs.length = m)
    (hL : L = A ++ (b, .cells cs T' (0, 0)) :: R) (hi : i + m ≤ cs.size) (hk : K undef (A ++ (b, .cells (cs.toList.take i ++ vs ++ cs.toList.drop (i + vs.length)).toArray T' (0, 0)) :: R)) : EF P W n L E ⟨d, .store T x y, t, pos, after, g⟩ K := by
  have h1 : ∀ v ∈ vs, v.oneCell' = true := List.all_eq_true.1 h1a
  refine ⟨fun a w ha hw => ?_⟩
  have hB := hS.h w
  subst hL
  subst hm
  have hst := run_storeCells_at P b i T' vs 0 cs w hw.mid (by omega) h1
  simp only [Nat.add_zero] at hst
  have hrun : (execOp a.eval ⟨d, .store T x y, t, pos, after, g⟩).run P w = .ok .skip (w.setRow b (cs.toList.take i ++ vs ++ cs.toList.drop (i + vs.length)).toArray) := by
    simp only [execOp, ha.eval hx, ha.eval hy, Instr.storeAt, Instr.sureAddr, storeVar, Value.cells, Sem.run_bind, Sem.run_pure, Result.andThen_ok, hB]
    simp [hst]
  rw [hrun]
  exact ⟨_, hw.turnAt rfl rfl rfl (setRow_heap w b cs _ T' (0, 0) hw.mid) (fun k hk => setRow_other w b k _ hk), hk⟩
/-- A whole block is written. -/
theorem ef_storeB (A R : List Blk) {T T' m b : Nat} {x y : Operand} {vs : List Value} {cs : Array Value} [hS : Ts P T m] (hx : ev E x = some (.pointer (some ⟨b, 0, none⟩))) (hy : ev E y = some (.agg vs.toArray)) (h1 : vs.all (·.oneCell') = true) (hm : vs.length = m)
    (hL : L = A ++ (b, .cells cs T' (0, 0)) :: R) (hi : cs.size = m) (hk : K undef (A ++ (b, .cells vs.toArray T' (0, 0)) :: R)) : EF P W n L E ⟨d, .store T x y, t, pos, after, g⟩ K :=
  ef_storeN A R hx hy h1 hm hL (by omega) (by
    have : (cs.toList.take 0 ++ vs ++ cs.toList.drop (0 + vs.length)) = vs := by
      rw [List.take_zero, List.nil_append, List.drop_of_length_le (by simp; omega), List.append_nil]
    rw [this]; exact hk)
theorem ef_buildSlice {T len : Nat} {parts : Array (Nat × Operand)} {e s : Nat} {z : Value} {vs : Array (Nat × Value)} {cells : Array Value} [hT : Sl P T e] [hS : Ts P e s] [h0 : T0 P e z] (hp : ∀ a, Env n a E → parts.map (fun (i, x) => (i, a.eval x)) = vs) (hlen : len * s ≤ 16777216) (hpos : len * s ≠ 0)
    (hf : Instr.fill (fun i => some (i * s, s)) ((Array.range (len * s)).map (z.cells[· % z.cells.size]!)) vs.toList = some cells)
    (hk : ∀ r, K (.slice (some ⟨r, 0, none⟩) len len) ((r, .cells cells e (0, 0)) :: L)) : EF P W n L E ⟨d, .buildSlice T len parts, t, pos, after, g⟩ K :=
  ef_of_new (v := fun r => .slice (some ⟨r, 0, none⟩) len len) (fun a w ha hw => by
    have hB := hS.h w
    have hz := h0.h w
    have hlt : ¬ (16777216 < len * s) := by omega
    have hpp := hp a ha
    simp only [execOp, hpp]
    simp [Instr.buildSlice, run_underlying hT.h, hB, hz, hpos, hlt, hf, newRow]) hk
/-- One element of one cell. -/
theorem ef_slice1 {T : Nat} {x : Operand} {e b : Nat} {z v : Value} [hT : Sl P T e] [hI : Inf P e z 1 b] (hx : ev E x = some v) (h1 : v.oneCell' = true) (hz1 : z.cells.size = 1)
    (hk : ∀ r, K (.slice (some ⟨r, 0, none⟩) 1 1) ((r, .cells #[v] e (0, 0)) :: L)) : EF P W n L E ⟨d, .buildSlice T 1 #[(0, x)], t, pos, after, g⟩ K :=
  ef_buildSlice (T := T) (s := 1) (z := z) (vs := #[(0, v)]) (cells := #[v]) (fun a ha => by simp [ha.eval hx]) (by decide) (by decide) (by
    have hcl : v.cells = #[v] := by cases v <;> first | rfl | cases h1
    have hr : (Array.range (1 * 1)).map (z.cells[· % z.cells.size]!) = #[z.cells[0 % z.cells.size]!] := by
      apply Array.toList_inj.1
      simp [Array.toList_range, List.range_succ]
    rw [hr]
    simp [Instr.fill, hcl]) hk
/-- One element, a struct. -/
theorem ef_sliceA {T : Nat} {x : Operand} {e b s : Nat} {z : Value} {vs : List Value} [hT : Sl P T e] [hI : Inf P e z s b] (hx : ev E x = some (.agg vs.toArray)) (hvs : vs.length = s) (hs0 : s ≠ 0) (hs1 : s ≤ 1000)
    (hk : ∀ r, K (.slice (some ⟨r, 0, none⟩) 1 1) ((r, .cells vs.toArray e (0, 0)) :: L)) : EF P W n L E ⟨d, .buildSlice T 1 #[(0, x)], t, pos, after, g⟩ K :=
  ef_buildSlice (T := T) (s := s) (z := z) (vs := #[(0, .agg vs.toArray)]) (cells := vs.toArray) (fun a ha => by simp [ha.eval hx]) (by omega) (by omega) (by
    subst hvs
    have hcv : (Value.agg vs.toArray).cells = vs.toArray := rfl
    simp only [Instr.fill, hcv, List.size_toArray, ne_eq, not_true_eq_false, Nat.zero_mul, Nat.zero_add, Nat.one_mul, Array.size_map, Array.size_range, Nat.lt_irrefl, gt_iff_lt, decide_false, Bool.or_self, Bool.false_eq_true, if_false]
    congr 1
    have key : ∀ (l : List Value) (k : Nat) (acc : Array Value), k + l.length = acc.size → (l.zipIdx k).foldl (fun cs (c, j) => cs.setIfInBounds j c) acc = (acc.toList.take k ++ l).toArray := by
      intro l
      induction l with
      | nil =>
        intro k acc hk
        simp only [List.zipIdx_nil, List.foldl_nil, List.append_nil]
        rw [List.take_of_length_le (by simp at hk ⊢; omega)]
      | cons v l ih =>
        intro k acc hk
        simp only [List.zipIdx_cons, List.foldl_cons]
        rw [ih (k + 1) _ (by simp at hk ⊢; omega)]
        have hkl : k < acc.size := by simp at hk; omega
        congr 1
        apply List.ext_getElem?
        intro j
        simp only [Array.toList_setIfInBounds, List.getElem?_append, List.length_take, List.length_set, Array.length_toList, List.getElem?_take, List.getElem?_set, List.getElem?_cons]
        by_cases h1 : j < k
        · have e1 : j < k + 1 := by omega
          have e2 : k ≠ j := by omega
          simp [h1, e1, e2, show min (k + 1) acc.size = k + 1 by omega, show min k acc.size = k by omega]
        · by_cases h2 : j = k
          · subst h2
            simp [hkl, show min (j + 1) acc.size = j + 1 by omega, show min j acc.size = j by omega]
          · have e1 : ¬ j < k + 1 := by omega
            have e3 : j - k = (j - (k + 1)) + 1 := by omega
            simp [h1, e1, e3, show min (k + 1) acc.size = k + 1 by omega, show min k acc.size = k by omega]
    have := key vs 0 ((Array.range vs.length).map ((Value.cells z)[· % (Value.cells z).size]!)) (by simp)
    generalize (Array.range vs.length).map ((Value.cells z)[· % (Value.cells z).size]!) = zc at this ⊢
    simpa using this) hk
theorem ef_call {f : Nat} {args : List Operand} {ts : Array TypeId} {vs : List Value} [hC : Cf P f] (h : evs E args = some vs) (hf : XF P W f vs.toArray L K) :
    EF P W n L E ⟨d, .call ⟨.value (.func f), args.toArray, ts⟩, t, pos, after, g⟩ K := by
  refine ⟨fun a w ha hw => ?_⟩
  have hc := hC.h vs.toArray w
  have he := ha.evals h
  have hrun : (execOp a.eval ⟨d, .call ⟨.value (.func f), args.toArray, ts⟩, t, pos, after, g⟩).run P w = .ok (.enter f vs.toArray) w := by
    have hv : a.eval (.func f) = .func (.func f) #[] #[] := rfl
    simp only [execOp, resolve, hv]
    simp [Deferred.ofValue, invoke, he]
    simpa using hc
  rw [hrun]
  exact Calls.mono (hf.run w hw) fun e w'' ⟨v, h1, L', h2, h3⟩ => ⟨v, h1, L', h2, h3⟩
theorem ef_callv {f : Nat} {x : Operand} {args : List Operand} {ts : Array TypeId} {vs first cap : List Value} [hC : Cf P f] (hx : ev E x = some (.func (.func f) first.toArray cap.toArray)) (h : evs E args = some vs) (hf : XF P W f (first ++ vs ++ cap).toArray L K) :
    EF P W n L E ⟨d, .call ⟨.value x, args.toArray, ts⟩, t, pos, after, g⟩ K := by
  refine ⟨fun a w ha hw => ?_⟩
  have hc := hC.h (first ++ vs ++ cap).toArray w
  have he := ha.evals h
  have hrun : (execOp a.eval ⟨d, .call ⟨.value x, args.toArray, ts⟩, t, pos, after, g⟩).run P w = .ok (.enter f (first ++ vs ++ cap).toArray) w := by
    simp only [execOp, resolve, ha.eval hx]
    simp [Deferred.ofValue, invoke, he]
    simpa using hc
  rw [hrun]
  exact Calls.mono (hf.run w hw) fun e w'' ⟨v, h1, L', h2, h3⟩ => ⟨v, h1, L', h2, h3⟩
end

/-! ### slices of one's own that grow -/
/-- The value v is a slice of m elements, of s cells each (the cells xs), in memory of one's own (the blocks l). -/
def SlO (s : Nat) (e : TypeId) (v : Value) (m : Nat) (xs : List Value) (l : List Blk) : Prop :=
  (v = .slice none 0 0 ∧ m = 0 ∧ xs = [] ∧ l = []) ∨
  ∃ b cs cap, v = .slice (some ⟨b, 0, none⟩) m cap ∧ l = [(b, .cells cs e (0, 0))] ∧ m ≤ cap ∧ cs.size = cap * s ∧ cs.toList.take (m * s) = xs
theorem SlO.nil {s : Nat} {e : TypeId} : SlO s e (.slice none 0 0) 0 [] [] := .inl ⟨rfl, rfl, rfl, rfl⟩
theorem SlO.len {s : Nat} {e : TypeId} {v : Value} {m : Nat} {xs : List Value} {l : List Blk} (h : SlO s e v m xs l) : xs.length = m * s := by
  rcases h with ⟨_, rfl, rfl, _⟩ | ⟨b, cs, cap, _, _, h1, h2, rfl⟩
  · simp
  · rw [List.length_take, Array.length_toList, h2]
    exact Nat.min_eq_left (Nat.mul_le_mul_right _ h1)
theorem SlO.val {s : Nat} {e : TypeId} {v : Value} {m : Nat} {xs : List Value} {l : List Blk} (h : SlO s e v m xs l) : ∃ p c, v = .slice p m c := by
  rcases h with ⟨h, rfl, _⟩ | ⟨b, cs, cap, h, _⟩
  · exact ⟨_, _, h⟩
  · exact ⟨_, _, h⟩
/-- What the source of an append tells. -/
def Rs (W : World) (L : List Blk) (p : Option Addr) (news : List Value) : Prop := ∀ j u, news[j]? = some u → ∃ b o, p = some ⟨b, o, none⟩ ∧ Cl W L b (o + j) u
theorem Rs.nil {W : World} {L : List Blk} {p : Option Addr} : Rs W L p [] := fun j u h => by cases h
theorem SlO.rs {W : World} {L : List Blk} {s : Nat} {e : TypeId} {p : Option Addr} {m c : Nat} {xs : List Value} {l : List Blk} (h : SlO s e (.slice p m c) m xs l) (hl : ∀ q, q ∈ l → q ∈ L) : Rs W L p xs := by
  rcases h with ⟨_, _, rfl, _⟩ | ⟨b, cs, cap, h, rfl, h1, h2, rfl⟩
  · exact Rs.nil
  · intro j u hj
    simp only [Value.slice.injEq] at h
    refine ⟨b, 0, h.1, Cl.own (cs := cs) (T := e) (fr := (0, 0)) (hl _ (by simp)) ?_⟩
    rw [List.getElem?_take] at hj
    split at hj
    · simpa using hj
    · cases hj
section
variable {P : Program} {W : World} {n : Nat} {L : List Blk} {E : List (Nat × Value)} {d : Option Nat} {t : TypeId} {pos : String} {after : Array Edge} {g : Option (Nat × Bool)} {K : Value → List Blk → Prop}
theorem run_append_zero {T ty e s : Nat} [hT : Sl P T e] [hS : Ts P e s] (p q : Option Addr) (m cap c : Nat) (w : World) (hm : m ≤ cap) :
    (Builtin.append_ #[T, T] ty #[.slice p m cap, .slice q 0 c]).run P w = .ok (.slice p m cap) w := by
  have hB := hS.h w
  cases p <;> cases q <;> simp [Builtin.append_, run_underlying hT.h, hB, Builtin.lenOf, hm, Builtin.firstCells, loadCells, loadCellsFrom, storeCells]
theorem ef_append (A R l : List Blk) {T e s bt : Nat} {z : Value} {x y : Operand} {v : Value} {m k c : Nat} {p : Option Addr} {xs news : List Value} [hT : Sl P T e] [hI : Inf P e z s bt]
    (hx : ev E x = some v) (hy : ev E y = some (.slice p k c)) (hO : SlO s e v m xs l) (hL : L = A ++ (l ++ R)) (hsrc : Rs W L p news) (hk : news.length = k * s) (h1a : news.all (·.oneCell') = true) (hs : 0 < s)
    (hfit : (m + k) * bt ≤ 140737488355328) (hsm : m + k ≤ 9223372036854775807) (hK : ∀ v' l', SlO s e v' (m + k) (xs ++ news) l' → K v' (A ++ (l' ++ R))) :
    EF P W n L E ⟨d, .call ⟨.builtin .append, #[x, y], #[T, T]⟩, t, pos, after, g⟩ K := by
  have h1 : ∀ u ∈ news, u.oneCell' = true := List.all_eq_true.1 h1a
  refine ⟨fun a w ha hw => ?_⟩
  have hrun : (execOp a.eval ⟨d, .call ⟨.builtin .append, #[x, y], #[T, T]⟩, t, pos, after, g⟩).run P w = ((Builtin.append_ #[T, T] t #[v, .slice p k c]).run P w).andThen fun v w => .ok (.value v) w := by
    simp [execOp, resolve, invoke, builtin, ha.eval hx, ha.eval hy]
  rw [hrun]
  obtain ⟨i, hi1, hi2, hi3, hi4, hzz⟩ := hI.h
  subst hi3; subst hi4
  by_cases hk0 : k = 0
  · subst hk0
    have hn : news = [] := List.eq_nil_of_length_eq_zero (by simpa using hk)
    subst hn
    obtain ⟨q, c', rfl⟩ := hO.val
    have hmc : m ≤ c' := by
      rcases hO with ⟨h, rfl, _⟩ | ⟨b, cs, cap, h, _, h1, _⟩
      · omega
      · simp only [Value.slice.injEq] at h; omega
    rw [run_append_zero q p m c' c w hmc]
    refine ⟨_, hw, ?_⟩
    rw [hL]
    exact hK _ _ (by simpa using hO)
  · have hpos : 0 < news.length := by rw [hk]; exact Nat.mul_pos (by omega) hs
    obtain ⟨b0, o0, hp, _⟩ := hsrc 0 _ (List.getElem?_eq_getElem hpos)
    subst hp
    have hnews : ∀ (w' : World), Hp W w' L → ∀ j u, news[j]? = some u → w'.cell? ((⟨b0, o0, none⟩ : Addr).add j) = some u := fun w' hw' j u hj => by
      obtain ⟨b, o, hbo, hc⟩ := hsrc j u hj
      simp only [Option.some.injEq, Addr.mk.injEq] at hbo
      obtain ⟨rfl, rfl, _⟩ := hbo
      rw [add_zero']; exact hc.get hw'
    rcases hO with ⟨rfl, rfl, rfl, rfl⟩ | ⟨b, cs, cap, rfl, rfl, hmc, hcs, htk⟩
    · have hr := run_append_nil (P := P) w T t e i z hT.h hi1 hi2 ⟨b0, o0, none⟩ k c news hk (hnews w hw) (by omega) (by omega) (by have := hfit; simp only [Nat.zero_add] at this; omega)
      rw [hr]
      have hge := grownCap_ge w k 0 e
      refine ⟨_, (hw.drew.alloc _).perm ?_, hK _ [(w.heap.size, .cells (news.toArray ++ Builtin.zeroCells z.cells (grownCap w k 0 e - k)) e (0, 0))] (.inr ⟨w.heap.size, _, grownCap w k 0 e, ?_, rfl, by omega, ?_, ?_⟩)⟩
      · rw [hL]
        simp only [List.nil_append, List.singleton_append]
        exact List.perm_middle.symm
      · simp
      · simp only [Array.size_append, List.size_toArray, size_zeroCells, hk]
        rw [hzz, ← Nat.add_mul]
        congr 1
        omega
      · simp only [Array.toList_append, Nat.zero_add, List.nil_append]
        rw [← hk]; exact List.take_left
    · by_cases hroom : m + k ≤ cap
      · have hlen : (cs.toList.take (m * i.size)).length = m * i.size := by
          rw [List.length_take, Array.length_toList, hcs]; exact Nat.min_eq_left (Nat.mul_le_mul_right _ hmc)
        have hfit' : m * i.size + news.length ≤ cs.size := by rw [hk, hcs, ← Nat.add_mul]; exact Nat.mul_le_mul_right _ hroom
        have hw2 := hw
        rw [hL] at hw2
        have hr := run_append_room (P := P) w T t e i hT.h hi1 b m cap cs hw2.mid ⟨b0, o0, none⟩ k c news hk (hnews w hw) h1 hroom hfit'
        rw [hr]
        refine ⟨_, hw2.turnAt rfl rfl rfl (setRow_heap w b cs _ e (0, 0) hw2.mid) (fun q hq => setRow_other w b q _ hq), hK _ [(b, .cells (cs.toList.take (m * i.size) ++ news ++ cs.toList.drop (m * i.size + news.length)).toArray e (0, 0))] (.inr ⟨b, _, cap, rfl, rfl, hroom, ?_, ?_⟩)⟩
        · simp only [List.size_toArray, List.length_append, List.length_take, List.length_drop, Array.length_toList]
          omega
        · have : (m + k) * i.size = (xs ++ news).length := by rw [List.length_append, ← htk, hlen, hk, Nat.add_mul]
          rw [this, ← htk]
          exact List.take_left
      · have hlen : xs.length = m * i.size := by
          rw [← htk, List.length_take, Array.length_toList, hcs]; exact Nat.min_eq_left (Nat.mul_le_mul_right _ hmc)
        have hw2 := hw
        rw [hL] at hw2
        have holds : ∀ j u, xs[j]? = some u → w.cell? ((⟨b, 0, none⟩ : Addr).add j) = some u := fun j u hj => by
          rw [add_zero']
          rw [← htk, List.getElem?_take] at hj
          split at hj
          · simp [World.cell?, hw2.mid]; simpa using hj
          · cases hj
        have hr := run_append_grow (P := P) w T t e i z hT.h hi1 hi2 ⟨b, 0, none⟩ m cap xs hlen holds ⟨b0, o0, none⟩ k c news hk (hnews w hw) (by omega) (by omega) (growslice_fits (by omega) hfit)
        rw [hr]
        have hge := grownCap_ge w (m + k) cap e
        refine ⟨_, ((hw2.drew.alloc _).sub (L' := (w.heap.size, .cells (xs.toArray ++ news.toArray ++ Builtin.zeroCells z.cells (grownCap w (m + k) cap e - (m + k))) e (0, 0)) :: (A ++ R)) ?_).perm ?_, hK _ [(w.heap.size, .cells (xs.toArray ++ news.toArray ++ Builtin.zeroCells z.cells (grownCap w (m + k) cap e - (m + k))) e (0, 0))] (.inr ⟨w.heap.size, _, grownCap w (m + k) cap e, rfl, rfl, by omega, ?_, ?_⟩)⟩
        · refine List.Sublist.cons_cons _ ?_
          exact (List.Sublist.refl A).append (by simp)
        · simp only [List.singleton_append]
          exact List.perm_middle.symm
        · simp only [Array.size_append, List.size_toArray, size_zeroCells, hk, hlen]
          rw [hzz, ← Nat.add_mul, ← Nat.add_mul]
          congr 1
          omega
        · have : (m + k) * i.size = (xs ++ news).length := by rw [List.length_append, hlen, hk, Nat.add_mul]
          rw [this]
          simp only [Array.toList_append, List.append_assoc]
          rw [← List.append_assoc]
          exact List.take_left
end
end Go.Proofs.Ytoolgphkfnkajaa.X
