/-
  Texts of my own, put together: walks and laws for this seat. No condition.
-/
import Derived.Test.YtoolgphkfnkajaaM2
import Derived.Laws.IdiomStrings
import Derived.Laws.BytesArg
import Derived.Laws.StructEq
import Derived.Laws.Strings
import Derived.Laws.MakeOwn
import Derived.Laws.Strings2
import Derived.Laws.IdiomRangeMap
import Derived.RangeFuncNested
import Derived.RangeFuncCalls
import Derived.TacticsIn
import Derived.Sort.LoopGhostIn
import Derived.RangeFuncIn
import Derived.RangeFuncRecord
import Derived.RangeFuncSeq
import Derived.RangeFuncLeaves
import Derived.OrdersIn
/-
  Words of my own for walks, fourteenth part: texts and rows of bytes. No condition; generic over the program.
-/
namespace Go.Proofs.Ytoolgphkfnkajaa.X
open Go Go.RowKit
set_option linter.unusedVariables false
set_option linter.unusedSimpArgs false
/-- All rows at once. -/
theorem Rs.rows {α : Type} {W : World} {L : List Blk} {p : Option Addr} {enc : α → List Value} {s : Nat} {l : List α} (h : Rs W L p (l.flatMap enc)) (hs : ∀ x, (enc x).length = s) (h0 : 0 < s) (hne : 0 < l.length) :
    ∃ b o, p = some ⟨b, o, none⟩ ∧ ∀ k (hk : k < l.length) j u, (enc l[k])[j]? = some u → Cl W L b (o + k * s + j) u := by
  obtain ⟨b, o, rfl, _⟩ := h.row hs h0 (k := 0) hne
  refine ⟨b, o, rfl, fun k hk j u hj => ?_⟩
  obtain ⟨b', o', hp, hc⟩ := h.row hs h0 hk
  simp only [Option.some.injEq, Addr.mk.injEq, and_true] at hp
  obtain ⟨rfl, rfl⟩ := hp
  exact hc j u hj
section
variable {P : Program} {W : World} {n : Nat} {L : List Blk} {E : List (Nat × Value)} {ops : Array Oper} {Q : Exit → Act → World → Prop} {rest : List Oper}
/-- Blocks behind the first ones change places. -/
theorem xo_permT (A : List Blk) {R R' : List Blk} (hp : R.Perm R') (h : XO P W n ops Q rest (A ++ R') E) : XO P W n ops Q rest (A ++ R) E := xo_perm (hp.append_left A) h
theorem xc_permT (A : List Blk) {R R' : List Blk} {c : Code} (hp : R.Perm R') (h : XC P W n c Q (A ++ R') E) : XC P W n c Q (A ++ R) E := xc_perm (hp.append_left A) h
theorem xq_permT (A : List Blk) {R R' : List Blk} {e : Exit} (hp : R.Perm R') (h : XQ W n Q e (A ++ R') E) : XQ W n Q e (A ++ R) E := xq_perm (hp.append_left A) h
theorem xq_sb {M : List Blk} {e : Exit} (hs : Sb M L) (h : XQ W n Q e M E) : XQ W n Q e L E := .mk fun a w ha hw => h.run a w ha (hs.hp hw)
theorem xo_sb {M : List Blk} (hs : Sb M L) (h : XO P W n ops Q rest M E) : XO P W n ops Q rest L E := .mk fun a w ha hw => h.run a w ha (hs.hp hw)
theorem xc_sb {M : List Blk} {c : Code} (hs : Sb M L) (h : XC P W n c Q M E) : XC P W n c Q L E := .mk fun a w ha hw => h.run a w ha (hs.hp hw)
/-- The first blocks, unnamed for a while. -/
theorem xo_gen1 {b1 : Blk} (h : ∀ p1, p1 = b1 → XO P W n ops Q rest (p1 :: L) E) : XO P W n ops Q rest (b1 :: L) E := h _ rfl
theorem xo_gen2 {b1 b2 : Blk} (h : ∀ p1, p1 = b1 → ∀ p2, p2 = b2 → XO P W n ops Q rest (p1 :: p2 :: L) E) : XO P W n ops Q rest (b1 :: b2 :: L) E := h _ rfl _ rfl
theorem xo_gen3 {b1 b2 b3 : Blk} (h : ∀ p1, p1 = b1 → ∀ p2, p2 = b2 → ∀ p3, p3 = b3 → XO P W n ops Q rest (p1 :: p2 :: p3 :: L) E) : XO P W n ops Q rest (b1 :: b2 :: b3 :: L) E := h _ rfl _ rfl _ rfl
end
section
variable {P : Program} {W : World} {n : Nat} {L : List Blk} {E : List (Nat × Value)} {d : Option Nat} {t : TypeId} {pos : String} {after : Array Edge} {g : Option (Nat × Bool)} {K : Value → List Blk → Prop}
/-- An append, its value spelt as a slice. -/
theorem ef_appendS (A R l : List Blk) {T e s bt : Nat} {z : Value} {x y : Operand} {v : Value} {m k c : Nat} {p : Option Addr} {xs news : List Value} [hT : Sl P T e] [hI : Inf P e z s bt]
    (hx : ev E x = some v) (hy : ev E y = some (.slice p k c)) (hO : SlO s e v m xs l) (hL : L = A ++ (l ++ R)) (hsrc : Rs W L p news) (hk : news.length = k * s) (h1a : news.all (·.oneCell') = true) (hs : 0 < s)
    (hfit : (m + k) * bt ≤ 140737488355328) (hsm : m + k ≤ 9223372036854775807) (hK : ∀ q c' l', SlO s e (.slice q (m + k) c') (m + k) (xs ++ news) l' → m + k ≤ c' → K (.slice q (m + k) c') (A ++ (l' ++ R))) :
    EF P W n L E ⟨d, .call ⟨.builtin .append, #[x, y], #[T, T]⟩, t, pos, after, g⟩ K :=
  ef_append A R l hx hy hO hL hsrc hk h1a hs hfit hsm fun v' l' h => by
    obtain ⟨q, c', rfl, h, hc⟩ := h.opn
    exact hK q c' l' h hc
end
/-- The results are one whole block, and two values. -/
theorem xq_retB3 {P : Program} {W : World} {n : Nat} {L : List Blk} {E : List (Nat × Value)} {K : Value → List Blk → Prop} {fn : Func} {t u s T b m : Nat} {vs : List Value} {x y : Value} {T' : TypeId} {fr : Nat × Nat} {e : Exit} [hA : Ta P T true] [hS : Ts P T m] (he : e = .ret ∨ e = .normal) (hr : fn.results = #[.cell t T, .tmp u, .tmp s]) (ht : lk E t = some (.pointer (some ⟨b, 0, none⟩)))
    (hu : lk E u = some x) (hs : lk E s = some y) (hk : Kn W L b (.cells vs.toArray T' fr)) (hm : vs.length = m) {L' : List Blk} (hL : L'.Sublist L) (h : K (.tuple #[.agg vs.toArray, x, y]) L') : XQ W n (bodyPost P fn (XP W K)) e L E :=
  xq_retg' hL he (fun a w ha hw => by
    have h1 := hA.h w
    have h2 := hS.h w
    subst hm
    have hl := run_loadCells_list (P := P) w ⟨b, 0, none⟩ vs (fun j v hj => by
      rw [add_zero', Nat.zero_add]
      exact (Cl.get (L := L) ⟨_, _, _, hk, by simpa using hj⟩ hw))
    have hv := ha.val t _ ht
    have hv2 := ha.val u _ hu
    have hv3 := ha.val s _ hs
    simp [results, hr, Array.getD_eq_getD_getElem?, hv, hv2, hv3, asAddr, loadVar, h1, h2, hl]) h
/-- A text's bytes, as whole numbers. -/
def sbs (s : ByteArray) : List Int := s.data.toList.map fun b => (b.toNat : Int)
theorem sbs_len (s : ByteArray) : (sbs s).length = s.size := by simp only [sbs, List.length_map, Array.length_toList]; rfl
theorem Rs.ofBytes {W : World} {L : List Blk} {r : Nat} {s : ByteArray} {cap : Nat} {e : TypeId} {fr : Nat × Nat} : Rs W ((r, .cells (bytesRow s cap) e fr) :: L) (some ⟨r, 0, none⟩) (ints .u8 (sbs s)) := fun j u hj => by
  refine ⟨r, 0, rfl, Cl.own (List.Mem.head _) ?_⟩
  rw [Nat.zero_add]
  unfold bytesRow
  have hlt : j < s.data.size := by
    have := (List.getElem?_eq_some_iff.1 hj).1
    simpa [ints, sbs] using this
  rw [Array.getElem?_append_left (by simpa using hlt)]
  simpa [ints, sbs, hlt] using hj
section
variable {P : Program} {W : World} {n : Nat} {L : List Blk} {E : List (Nat × Value)} {d : Option Nat} {t : TypeId} {pos : String} {after : Array Edge} {g : Option (Nat × Bool)} {K : Value → List Blk → Prop}
theorem ef_convBytes {S T e : Nat} {x : Operand} {s : ByteArray} [hS : St P S] [hT : Sl P T e] [he : Ik P e .u8] (hx : ev E x = some (.string s))
    (hk : ∀ r cap fr, K (.slice (some ⟨r, 0, none⟩) s.size cap) ((r, .cells (bytesRow s cap) e fr) :: L)) : EF P W n L E ⟨d, .convert S T x, t, pos, after, g⟩ K := by
  refine ⟨fun a w ha hw => ?_⟩
  have hr := run_bytes_of_string (P := P) w S T e s hS.h hT.h he.h
  have hrun : (execOp a.eval ⟨d, .convert S T x, t, pos, after, g⟩).run P w = ((convert S T (.string s)).run P w).andThen fun v w => .ok (.value v) w := by
    simp [execOp, ha.eval hx]
  rw [hrun, hr]
  exact ⟨_, hw.drew.alloc _, hk _ _ _⟩
/-- '[]byte("..")', spelt as a literal: the row bears the run-time's mark. -/
theorem ef_convMark (A R : List Blk) {T e m c b o : Nat} {x : Operand} {cs : Array Value} {T' : TypeId} {fr0 : Nat × Nat} [hT : Sl P T e] [he : Ik P e .u8] (hx : ev E x = some (.slice (some ⟨b, o, none⟩) m c)) (hL : L = A ++ (b, .cells cs T' fr0) :: R)
    (hk : ∀ fr, K (.slice (some ⟨b, o, none⟩) m c) (A ++ (b, .cells cs T' fr) :: R)) : EF P W n L E ⟨d, .convert T T x, t, pos, after, g⟩ K := by
  refine ⟨fun a w ha hw => ?_⟩
  subst hL
  have h1 := hw.mid
  have hlt : b < w.heap.size := (Array.getElem?_eq_some_iff.1 h1).1
  obtain ⟨lo, hi⟩ := fr0
  have hsh : w.shape? b = some (T', cs.size) := by unfold World.shape?; rw [h1]
  have hrun : (execOp a.eval ⟨d, .convert T T x, t, pos, after, g⟩).run P w = .ok (.value (.slice (some ⟨b, o, none⟩) m c)) (w.freeze ⟨b, cs.size, none⟩ 1) := by
    simp [execOp, ha.eval hx, convert, run_underlying hT.h, run_underlying he.h, markStringish, hsh]
  rw [hrun]
  have hget : ∀ k, (w.freeze ⟨b, cs.size, none⟩ 1).heap[k]? = if b = k then (w.heap[k]?).map (fun
      | .cells c elem (lo, hi) => .cells c elem (if lo == hi then (cs.size, cs.size + 1) else (min lo cs.size, max hi (cs.size + 1)))
      | o => o) else w.heap[k]? := fun k => by
    unfold World.freeze
    rw [if_neg (by decide)]
    exact Array.getElem?_modify
  refine ⟨_, hw.turnAt rfl rfl rfl (o' := .cells cs T' (if lo == hi then (cs.size, cs.size + 1) else (min lo cs.size, max hi (cs.size + 1)))) ?_ (fun k hk => ?_), hk _⟩
  · rw [hget, if_pos rfl, h1]; rfl
  · rw [hget, if_neg (fun e => hk e.symm)]
theorem rd_convStr {S T e m c : Nat} {x : Operand} {p : Option Addr} {bs : List Int} [hS : Sl P S e] [he : Ik P e .u8] [hT : St P T] (hr : Rs W L p (ints .u8 bs)) (hx : ev E x = some (.slice p m c)) (hm : bs.length = m) :
    RD P W n L E ⟨d, .convert S T x, t, pos, after, g⟩ (.string (strOfNums bs)) := .mk fun a w ha hw => by
  have hrun : (convert S T (.slice p m c)).run P w = .ok (.string (strOfNums bs)) w := by
    cases p with
    | none =>
      have h0 := hr.none_nil
      have hb : bs = [] := by simpa [ints] using h0
      subst hb
      rw [run_convert_bytes_string w S T e none m c hS.h he.h hT.h]
      rfl
    | some q =>
      obtain ⟨b, o, sp⟩ := q
      by_cases h0 : bs = []
      · subst h0
        simp only [List.length_nil] at hm
        subst hm
        rw [run_convert_bytes_string w S T e _ 0 c hS.h he.h hT.h, run_bytesToString w _ 0 c [] (by simp [loadCells, loadCellsFrom])]
        rfl
      · have hl : 0 < (ints .u8 bs).length := by rw [ints_len]; exact List.length_pos_iff.2 h0
        obtain ⟨b', o', hp, _⟩ := hr 0 _ (List.getElem?_eq_getElem hl)
        simp only [Option.some.injEq, Addr.mk.injEq] at hp
        obtain ⟨rfl, rfl, rfl⟩ := hp
        refine run_convert_bytes_arg w S e hS.h he.h b o m c bs hm (fun i hi => ?_) T hT.h
        obtain ⟨b', o', hp, hc⟩ := hr i _ (ints_get .u8 bs i (by omega))
        simp only [Option.some.injEq, Addr.mk.injEq, and_true] at hp
        obtain ⟨rfl, rfl⟩ := hp
        rw [hc.get hw]
        simp [List.getD, List.getElem?_eq_getElem (show i < bs.length by omega)]
  simp [execOp, ha.eval hx, hrun]
theorem beq_bytes {a b : ByteArray} : (a.toList == b.toList) = decide (a = b) := by
  have h : a.toList = b.toList ↔ a = b := ⟨fun h => by
    rw [ByteArray.toList_eq, ByteArray.toList_eq] at h
    cases a; cases b
    congr 1
    exact Array.toList_inj.1 h, fun h => by rw [h]⟩
  rw [Bool.eq_iff_iff, beq_iff_eq, decide_eq_true_iff, h]
theorem rd_eqs {T T' : Nat} {x y : Operand} {i j : ByteArray} [hT : St P T] (hx : ev E x = some (.string i)) (hy : ev E y = some (.string j)) :
    RD P W n L E ⟨d, .binOp .eql T x y T', t, pos, after, g⟩ (.bool (decide (i = j))) := .mk fun a w ha hw => by
  have hb := beq_bytes (a := i) (b := j)
  simp [execOp, ha.eval hx, ha.eval hy, eqGuard, binOp, Op.stringOp, hb]
theorem rd_nes {T T' : Nat} {x y : Operand} {i j : ByteArray} [hT : St P T] (hx : ev E x = some (.string i)) (hy : ev E y = some (.string j)) :
    RD P W n L E ⟨d, .binOp .neq T x y T', t, pos, after, g⟩ (.bool (!decide (i = j))) := .mk fun a w ha hw => by
  have hb := beq_bytes (a := i) (b := j)
  simp [execOp, ha.eval hx, ha.eval hy, eqGuard, binOp, Op.stringOp, hb]
end
end Go.Proofs.Ytoolgphkfnkajaa.X
/-
  Words of my own for walks, eighteenth part: slices that are made; three effects that come up together; prefixes. No condition; generic over the program.
-/
namespace Go.Proofs.Ytoolgphkfnkajaa.X
open Go Go.RowKit
set_option linter.unusedVariables false
set_option linter.unusedSimpArgs false
section
variable {P : Program} {W : World} {n : Nat} {L : List Blk} {E : List (Nat × Value)} {d : Option Nat} {t : TypeId} {pos : String} {after : Array Edge} {g : Option (Nat × Bool)} {K : Value → List Blk → Prop}
theorem made_one (v : Value) (k : Nat) : madeCells #[v] k = (List.replicate k v).toArray := by
  apply Array.toList_inj.1
  unfold madeCells
  rw [Array.toList_map, Array.toList_range]
  apply List.ext_getElem
  · simp
  · intro i h1 h2
    simp only [List.getElem_map, List.getElem_range, List.getElem_replicate]
    simp [Nat.mod_one]
/-- A slice is made, of elements of one cell. -/
theorem ef_makeSlice {T e bt : Nat} {z v : Value} {x y : Operand} {kl kc : IntKind} {l c : Int} [hT : Sl P T e] [hI : Inf P e z 1 bt] (hx : ev E x = some (.int kl l)) (hy : ev E y = some (.int kc c)) (hz : z.cells = #[v]) (h0 : 0 ≤ l) (hlc : l ≤ c) (hc : c ≤ 16777216) (hb : bt ≤ 1000000)
    (hk : ∀ r, K (.slice (some ⟨r, 0, none⟩) l.toNat c.toNat) ((r, .cells (List.replicate c.toNat v).toArray e (0, 0)) :: L)) : EF P W n L E ⟨d, .makeSlice T x y, t, pos, after, g⟩ K := by
  obtain ⟨i, h1, h2, h3, h4, h5⟩ := hI.h
  refine ef_of_new (v := fun r => .slice (some ⟨r, 0, none⟩) l.toNat c.toNat) (fun a w ha hw => ?_) hk
  have hb' : (i.bytes : Int) * c ≤ 281474976710656 := by
    rw [h4]
    have e1 : (bt : Int) * c ≤ 1000000 * c := Int.mul_le_mul_of_nonneg_right (by omega) (by omega)
    omega
  have hr := run_makeSlice (P := P) w T e i z hT.h h1 h2 kl kc l c h0 hlc (by rw [h3]; omega) hb' (by omega)
  rw [h3, Nat.mul_one, hz, made_one] at hr
  simp [execOp, ha.eval hx, ha.eval hy, hr]
end
theorem Rs.take {W : World} {L : List Blk} {p : Option Addr} {xs : List Value} (h : Rs W L p xs) (k : Nat) : Rs W L p (xs.take k) := fun j u hj => h j u (by
  rw [List.getElem?_take] at hj
  split at hj
  · exact hj
  · cases hj)
section
variable {P : Program} {W : World} {n : Nat} {ops : Array Oper} {Q : Exit → Go.Act → World → Prop} {M L : List Blk} {pm tm : List Nat} {fuel m : Nat} {E : List (Nat × Value)}
theorem xm_three (i k l : Nat) {mi mk ml : Nat} {d d2 d3 : Option Nat} {op op2 op3 : Op} {t t2 t3 : TypeId} {pos pos2 pos3 : String} {after after2 after3 : Array Edge} (hi : ops[i]? = some ⟨d, op, t, pos, after, none⟩) (hk : ops[k]? = some ⟨d2, op2, t2, pos2, after2, none⟩) (hl : ops[l]? = some ⟨d3, op3, t3, pos3, after3, none⟩)
    (hr : readyM pm.zipIdx m = [i, k, l]) (hd : okd n d = true) (hd2 : okd n d2 = true) (hd3 : okd n d3 = true) (hmi : m ||| (1 <<< i) = mi) (hmk : m ||| (1 <<< k) = mk) (hml : m ||| (1 <<< l) = ml)
    (hv : EF P W n L E ⟨d, op, t, pos, after, none⟩ (fun v L' => Sb M L' ∧ XM P W n ops Q M pm tm fuel mi L' (pt E d v)))
    (hv2 : EF P W n L E ⟨d2, op2, t2, pos2, after2, none⟩ (fun v L' => Sb M L' ∧ XM P W n ops Q M pm tm fuel mk L' (pt E d2 v)))
    (hv3 : EF P W n L E ⟨d3, op3, t3, pos3, after3, none⟩ (fun v L' => Sb M L' ∧ XM P W n ops Q M pm tm fuel ml L' (pt E d3 v))) : XM P W n ops Q M pm tm (fuel + 1) m L E := .mk fun h1 h2 h3 listed hrp a w ha hw => by
  have hmem : ∀ j, j ∈ Region.ready .any ops listed ↔ j = i ∨ j = k ∨ j = l := fun j => by
    rw [ready_readyM hrp, h1, hr]; simp
  refine ⟨fun h => ?_, fun j hj => ?_⟩
  · have := (hmem i).2 (.inl rfl)
    rw [h] at this; cases this
  · rcases (hmem j).1 hj with rfl | rfl | rfl
    · exact xm_step h1 h2 h3 hi hd hmi hrp hv ha hw
    · exact xm_step h1 h2 h3 hk hd2 hmk hrp hv2 ha hw
    · exact xm_step h1 h2 h3 hl hd3 hml hrp hv3 ha hw
end
end Go.Proofs.Ytoolgphkfnkajaa.X
/-
  Words of my own for walks, nineteenth part: slices of slices, whatever they point to; bit operations as arithmetic. No condition; generic over the program.
-/
namespace Go.Proofs.Ytoolgphkfnkajaa.X
open Go Go.RowKit
set_option linter.unusedVariables false
set_option linter.unusedSimpArgs false
/-- Where a slice from l on points. -/
def slp (p : Option Addr) (cap l s : Nat) : Option Addr := if cap = l then p else p.map (·.add (l * s))
section
variable {P : Program} {W : World} {n : Nat} {L : List Blk} {E : List (Nat × Value)} {d : Option Nat} {t : TypeId} {pos : String} {after : Array Edge} {g : Option (Nat × Bool)}
theorem addr_add_zero (a : Addr) : a.add 0 = a := by cases a; rfl
theorem rd_slHi {T e len cap m : Nat} {p : Option Addr} {x hi : Operand} {k : IntKind} {j : Int} [hT : Sl P T e] [hS : Ts P e m] (hx : ev E x = some (.slice p len cap)) (hh : ev E hi = some (.int k j))
    (h0 : 0 ≤ j) (h2 : j ≤ cap) :
    RD P W n L E ⟨d, .slice T x none (some hi) none, t, pos, after, g⟩ (.slice p j.toNat cap) := .mk fun a w ha hw => by
  have hB := hS.h w
  have hp : p.map (fun a : Addr => a.add 0) = p := by cases p with
    | none => rfl
    | some a => show some (a.add 0) = some a; rw [addr_add_zero]
  simp [execOp, ha.eval hx, ha.eval hh, Instr.sliceAt, Instr.slice, Instr.sliceBounds, Instr.sliceBound, run_underlying hT.h, asIntOf, hB, h0, h2, hp]
theorem rd_slLo {T e len cap m : Nat} {p : Option Addr} {x lo : Operand} {k : IntKind} {i : Int} [hT : Sl P T e] [hS : Ts P e m] (hx : ev E x = some (.slice p len cap)) (hl : ev E lo = some (.int k i))
    (h0 : 0 ≤ i) (h1 : i ≤ len) :
    RD P W n L E ⟨d, .slice T x (some lo) none none, t, pos, after, g⟩ (.slice (slp p cap i.toNat m) (len - i.toNat) (cap - i.toNat)) := .mk fun a w ha hw => by
  have hB := hS.h w
  simp [execOp, ha.eval hx, ha.eval hl, Instr.sliceAt, Instr.slice, Instr.sliceBounds, Instr.sliceBound, run_underlying hT.h, asIntOf, hB, h0, h1, slp]
theorem rd_slLH {T e len cap m : Nat} {p : Option Addr} {x lo hi : Operand} {k k' : IntKind} {i j : Int} [hT : Sl P T e] [hS : Ts P e m] (hx : ev E x = some (.slice p len cap)) (hl : ev E lo = some (.int k i)) (hh : ev E hi = some (.int k' j))
    (h0 : 0 ≤ i) (h1 : i ≤ j) (h2 : j ≤ cap) :
    RD P W n L E ⟨d, .slice T x (some lo) (some hi) none, t, pos, after, g⟩ (.slice (slp p cap i.toNat m) (j.toNat - i.toNat) (cap - i.toNat)) := .mk fun a w ha hw => by
  have hB := hS.h w
  have e1 : 0 ≤ j := by omega
  have e3 : i ≤ (j.toNat : Int) := by omega
  simp [execOp, ha.eval hx, ha.eval hl, ha.eval hh, Instr.sliceAt, Instr.slice, Instr.sliceBounds, Instr.sliceBound, run_underlying hT.h, asIntOf, hB, h0, h1, h2, e1, e3, slp]
  intro hc; omega
theorem rd_andNot {T T' : Nat} {x y : Operand} {k : IntKind} {i j : Int} (hx : ev E x = some (.int k i)) (hy : ev E y = some (.int k j)) :
    RD P W n L E ⟨d, .binOp .andNot T x y T', t, pos, after, g⟩ (.int k (k.wrap (BitVec.ofInt k.bits i &&& ~~~(BitVec.ofInt k.bits j)).toNat)) := .mk fun a w ha hw => by
  simp [execOp, ha.eval hx, ha.eval hy, eqGuard, binOp, Op.intBits]
end
theorem Rs.slp {W : World} {L : List Blk} {p : Option Addr} {xs : List Value} (h : Rs W L p xs) (cap l : Nat) (hc : xs.length ≤ cap) : Rs W L (slp p cap l 1) (xs.drop l) := by
  unfold X.slp
  split
  · rename_i he
    rw [List.drop_eq_nil_of_le (by omega)]
    exact Rs.nil
  · cases p with
    | none => rw [h.none_nil]; simp; exact Rs.nil
    | some a =>
      by_cases h0 : xs.length = 0
      · rw [List.length_eq_zero_iff.1 h0]; simp; exact Rs.nil
      · obtain ⟨b, o, ha, _⟩ := h 0 _ (List.getElem?_eq_getElem (by omega))
        simp only [Option.some.injEq] at ha
        subst ha
        rw [Nat.mul_one]
        show Rs W L (some ((⟨b, o, none⟩ : Addr).add l)) _
        rw [add_zero']
        exact h.drop l
/-! ### bits -/
theorem wrap8 (x : Int) : IntKind.u8.wrap x = x % 256 := rfl
theorem wrap16 (x : Int) : IntKind.u16.wrap x = x % 65536 := rfl
theorem wrap32 (x : Int) : IntKind.u32.wrap x = x % 4294967296 := rfl
theorem u8_ind {p : Int → Prop} (h : ∀ n : Fin 256, p n.val) (x : Int) (h0 : 0 ≤ x) (h1 : x ≤ 255) : p x := by
  obtain ⟨n, rfl⟩ := Int.eq_ofNat_of_zero_le h0
  exact h ⟨n, by omega⟩
theorem and8_15 (x : Int) (h0 : 0 ≤ x) (h1 : x ≤ 255) : bits .and .u8 x 15 = x % 16 := u8_ind (p := fun x => bits .and .u8 x 15 = x % 16) (by decide +kernel) x h0 h1
theorem and8_128 (x : Int) (h0 : 0 ≤ x) (h1 : x ≤ 255) : bits .and .u8 x 128 = if 128 ≤ x then 128 else 0 := u8_ind (p := fun x => bits .and .u8 x 128 = if 128 ≤ x then 128 else 0) (by decide +kernel) x h0 h1
theorem and8_16 (x : Int) (h0 : 0 ≤ x) (h1 : x ≤ 255) : bits .and .u8 x 16 = x / 16 % 2 * 16 := u8_ind (p := fun x => bits .and .u8 x 16 = x / 16 % 2 * 16) (by decide +kernel) x h0 h1
theorem and8_32 (x : Int) (h0 : 0 ≤ x) (h1 : x ≤ 255) : bits .and .u8 x 32 = x / 32 % 2 * 32 := u8_ind (p := fun x => bits .and .u8 x 32 = x / 32 % 2 * 32) (by decide +kernel) x h0 h1
theorem andNot8_128 (x : Int) (h0 : 0 ≤ x) (h1 : x ≤ 255) : IntKind.u8.wrap (BitVec.ofInt IntKind.u8.bits x &&& ~~~(BitVec.ofInt IntKind.u8.bits 128)).toNat = x % 128 := u8_ind (p := fun x => IntKind.u8.wrap (BitVec.ofInt IntKind.u8.bits x &&& ~~~(BitVec.ofInt IntKind.u8.bits 128)).toNat = x % 128) (by decide +kernel) x h0 h1
/-- A byte is put behind a number. -/
theorem or32 (a c : Int) (h0 : 0 ≤ a) (h1 : a * 256 ≤ 4294967295) (h2 : 0 ≤ c) (h3 : c ≤ 255) : bits .or .u32 (a * 256) c = a * 256 + c := by
  obtain ⟨n, rfl⟩ := Int.eq_ofNat_of_zero_le h0
  obtain ⟨k, rfl⟩ := Int.eq_ofNat_of_zero_le h2
  have e1 : (BitVec.ofInt IntKind.u32.bits ((n : Int) * 256) ||| BitVec.ofInt IntKind.u32.bits (k : Int)).toNat = n * 256 + k := by
    rw [BitVec.toNat_or]
    have a1 : (BitVec.ofInt IntKind.u32.bits ((n : Int) * 256)).toNat = n * 256 := by
      rw [show ((n : Int) * 256) = ((n * 256 : Nat) : Int) from by omega, BitVec.ofInt_natCast, BitVec.toNat_ofNat]
      exact Nat.mod_eq_of_lt (by show n * 256 < 4294967296; omega)
    have a2 : (BitVec.ofInt IntKind.u32.bits (k : Int)).toNat = k := by
      rw [BitVec.ofInt_natCast, BitVec.toNat_ofNat]
      exact Nat.mod_eq_of_lt (by show k < 4294967296; omega)
    rw [a1, a2, Nat.mul_comm n 256]
    exact (Nat.two_pow_add_eq_or_of_lt (i := 8) (b := k) (by omega) n).symm.trans (by omega)
  show IntKind.u32.wrap ((BitVec.ofInt IntKind.u32.bits ((n : Int) * 256) ||| BitVec.ofInt IntKind.u32.bits (k : Int)).toNat) = _
  rw [e1, wrap32]
  omega
end Go.Proofs.Ytoolgphkfnkajaa.X
/-
  Words of my own for walks, twentieth part: four effects that come up together. No condition; generic over the program.
-/
namespace Go.Proofs.Ytoolgphkfnkajaa.X
open Go Go.RowKit
set_option linter.unusedVariables false
set_option linter.unusedSimpArgs false
section
variable {P : Program} {W : World} {n : Nat} {ops : Array Oper} {Q : Exit → Go.Act → World → Prop} {M L : List Blk} {pm tm : List Nat} {fuel m : Nat} {E : List (Nat × Value)}
theorem xm_four (i k l q : Nat) {mi mk ml mq : Nat} {d d2 d3 d4 : Option Nat} {op op2 op3 op4 : Op} {t t2 t3 t4 : TypeId} {pos pos2 pos3 pos4 : String} {after after2 after3 after4 : Array Edge} (hi : ops[i]? = some ⟨d, op, t, pos, after, none⟩) (hk : ops[k]? = some ⟨d2, op2, t2, pos2, after2, none⟩) (hl : ops[l]? = some ⟨d3, op3, t3, pos3, after3, none⟩) (hq : ops[q]? = some ⟨d4, op4, t4, pos4, after4, none⟩)
    (hr : readyM pm.zipIdx m = [i, k, l, q]) (hd : okd n d = true) (hd2 : okd n d2 = true) (hd3 : okd n d3 = true) (hd4 : okd n d4 = true) (hmi : m ||| (1 <<< i) = mi) (hmk : m ||| (1 <<< k) = mk) (hml : m ||| (1 <<< l) = ml) (hmq : m ||| (1 <<< q) = mq)
    (hv : EF P W n L E ⟨d, op, t, pos, after, none⟩ (fun v L' => Sb M L' ∧ XM P W n ops Q M pm tm fuel mi L' (pt E d v)))
    (hv2 : EF P W n L E ⟨d2, op2, t2, pos2, after2, none⟩ (fun v L' => Sb M L' ∧ XM P W n ops Q M pm tm fuel mk L' (pt E d2 v)))
    (hv3 : EF P W n L E ⟨d3, op3, t3, pos3, after3, none⟩ (fun v L' => Sb M L' ∧ XM P W n ops Q M pm tm fuel ml L' (pt E d3 v)))
    (hv4 : EF P W n L E ⟨d4, op4, t4, pos4, after4, none⟩ (fun v L' => Sb M L' ∧ XM P W n ops Q M pm tm fuel mq L' (pt E d4 v))) : XM P W n ops Q M pm tm (fuel + 1) m L E := .mk fun h1 h2 h3 listed hrp a w ha hw => by
  have hmem : ∀ j, j ∈ Region.ready .any ops listed ↔ j = i ∨ j = k ∨ j = l ∨ j = q := fun j => by
    rw [ready_readyM hrp, h1, hr]; simp
  refine ⟨fun h => ?_, fun j hj => ?_⟩
  · have := (hmem i).2 (.inl rfl)
    rw [h] at this; cases this
  · rcases (hmem j).1 hj with rfl | rfl | rfl | rfl
    · exact xm_step h1 h2 h3 hi hd hmi hrp hv ha hw
    · exact xm_step h1 h2 h3 hk hd2 hmk hrp hv2 ha hw
    · exact xm_step h1 h2 h3 hl hd3 hml hrp hv3 ha hw
    · exact xm_step h1 h2 h3 hq hd4 hmq hrp hv4 ha hw
end
section
variable {P : Program} {W : World} {n : Nat} {L : List Blk} {E : List (Nat × Value)} {d : Option Nat} {t : TypeId} {pos : String} {after : Array Edge} {g : Option (Nat × Bool)} {Q : Exit → Go.Act → World → Prop}
theorem rd_xor {T T' : Nat} {x y : Operand} {k : IntKind} {i j : Int} (hx : ev E x = some (.int k i)) (hy : ev E y = some (.int k j)) :
    RD P W n L E ⟨d, .binOp .xor T x y T', t, pos, after, g⟩ (.int k (bits .xor k i j)) := .mk fun a w ha hw => by
  simp [execOp, ha.eval hx, ha.eval hy, eqGuard, binOp, intBits_xor]
theorem xor8_by (x y : Int) : 0 ≤ bits .xor .u8 x y ∧ bits .xor .u8 x y ≤ 255 := by
  obtain ⟨z, hz⟩ : ∃ z, bits .xor .u8 x y = IntKind.u8.wrap z := ⟨_, rfl⟩
  rw [hz, wrap8]; omega
/-- A loop whose own blocks stay. -/
theorem xc_loopK {c : Code} {ι : Type} (I : ι → Prop) (μ : ι → Nat) (Es : ι → List (Nat × Value)) (i0 : ι) (h0 : I i0) (hE : ∀ i v, lk (Es i0) i = some v → lk E i = some v)
    (round : ∀ i, I i → XC P W n c (Exit.then (fun a w => ∃ j, I j ∧ μ j < μ i ∧ Env n a (Es j) ∧ Hp W w L) Q) L (Es i)) : XC P W n (.loop c) Q L E := xc_loopI I μ (fun _ => L) Es i0 h0 rfl hE round
theorem xq_roundK {ι : Type} {I : ι → Prop} {μ : ι → Nat} {Es : ι → List (Nat × Value)} {m : Nat} {L' : List Blk} {e : Exit} (he : e = .normal) (j : ι) (hj : I j) (hm : μ j < m) (hL : L'.Sublist L) (hE : ∀ k v, lk (Es j) k = some v → lk E k = some v) :
    XQ W n (Exit.then (fun a w => ∃ j, I j ∧ μ j < m ∧ Env n a (Es j) ∧ Hp W w L') Q) e L E := by
  subst he; exact xq_sub hL (xq_roundI (Ls := fun _ => L') j hj hm rfl hE)
end
end Go.Proofs.Ytoolgphkfnkajaa.X
/-
  Words of my own for walks: a slice that is made, of elements of several cells. No condition; generic over the program.
-/
namespace Go.Proofs.Ytoolgphkfnkajaa.X
open Go Go.RowKit
set_option linter.unusedVariables false
section
variable {P : Program} {W : World} {n : Nat} {L : List Blk} {E : List (Nat × Value)} {d : Option Nat} {t : TypeId} {pos : String} {after : Array Edge} {g : Option (Nat × Bool)} {K : Value → List Blk → Prop}
theorem made_list (vs : List Value) (hs : 0 < vs.length) : ∀ (k : Nat), (madeCells vs.toArray (k * vs.length)).toList = (List.replicate k vs).flatMap id := by
  have key : ∀ (k : Nat), (List.range (k * vs.length)).map (fun i => vs.toArray[i % vs.toArray.size]!) = (List.replicate k vs).flatMap id := by
    intro k
    induction k with
    | zero => simp
    | succ k ih =>
      rw [Nat.succ_mul, Nat.add_comm, List.range_add, List.map_append, List.map_map, List.replicate_succ, List.flatMap_cons, ← ih]
      congr 1
      · apply List.ext_getElem
        · simp
        · intro i h1 h2
          have h3 : i < vs.length := by simpa using h1
          simp [Nat.mod_eq_of_lt h3, h3]
      · apply List.map_congr_left
        intro i hi
        simp [Function.comp]
  intro k
  unfold madeCells
  rw [Array.toList_map, Array.toList_range]
  exact key k
theorem ef_makeRows {T e bt s : Nat} {z : Value} {vs : List Value} {x y : Operand} {kl kc : IntKind} {l c : Int} [hT : Sl P T e] [hI : Inf P e z s bt] (hx : ev E x = some (.int kl l)) (hy : ev E y = some (.int kc c)) (hz : z.cells = vs.toArray) (hv : vs.length = s) (hs : 0 < s) (hs2 : s ≤ 100) (h0 : 0 ≤ l) (hlc : l ≤ c) (hc : c ≤ 100000) (hb : bt ≤ 1000000)
    (hk : ∀ r, K (.slice (some ⟨r, 0, none⟩) l.toNat c.toNat) ((r, .cells ((List.replicate c.toNat vs).flatMap id).toArray e (0, 0)) :: L)) : EF P W n L E ⟨d, .makeSlice T x y, t, pos, after, g⟩ K := by
  obtain ⟨i, h1, h2, h3, h4, h5⟩ := hI.h
  refine ef_of_new (v := fun r => .slice (some ⟨r, 0, none⟩) l.toNat c.toNat) (fun a w ha hw => ?_) hk
  have hb' : (i.bytes : Int) * c ≤ 281474976710656 := by
    rw [h4]
    have e1 : (bt : Int) * c ≤ 1000000 * c := Int.mul_le_mul_of_nonneg_right (by omega) (by omega)
    omega
  have hcs : c.toNat * s ≤ 16777216 := by
    have : c.toNat * s ≤ 100000 * 100 := Nat.mul_le_mul (by omega) hs2
    omega
  have hr := run_makeSlice (P := P) w T e i z hT.h h1 h2 kl kc l c h0 hlc (by rw [h3]; exact hcs) hb' (by omega)
  rw [h3, hz, ← hv] at hr
  have hm : madeCells vs.toArray (c.toNat * vs.length) = ((List.replicate c.toNat vs).flatMap id).toArray := Array.toList_inj.1 (by rw [made_list vs (by omega)])
  rw [hm] at hr
  simp [execOp, ha.eval hx, ha.eval hy, hr]
end
end Go.Proofs.Ytoolgphkfnkajaa.X
/-
  Words of my own for walks: an append to a slice without room, wherever it lies; a text from a place on. No condition; generic over the program.
-/
namespace Go.Proofs.Ytoolgphkfnkajaa.X
open Go Go.RowKit
set_option linter.unusedVariables false
set_option linter.unusedSimpArgs false
section
variable {P : Program} {W : World} {n : Nat} {L : List Blk} {E : List (Nat × Value)} {d : Option Nat} {t : TypeId} {pos : String} {after : Array Edge} {g : Option (Nat × Bool)} {K : Value → List Blk → Prop}
theorem ef_appendFull {T e s bt : Nat} {z : Value} {x y : Operand} {b o m k c : Nat} {p : Option Addr} {xs news : List Value} [hT : Sl P T e] [hI : Inf P e z s bt]
    (hx : ev E x = some (.slice (some ⟨b, o, none⟩) m m)) (hy : ev E y = some (.slice p k c)) (hold : Rs W L (some ⟨b, o, none⟩) xs) (hxl : xs.length = m * s) (hsrc : Rs W L p news) (hk : news.length = k * s) (h1a : news.all (·.oneCell') = true) (hs : 0 < s) (hk0 : 0 < k)
    (hfit : (m + k) * bt ≤ 140737488355328) (hsm : m + k ≤ 9223372036854775807) (hK : ∀ q c' l', SlO s e (.slice q (m + k) c') (m + k) (xs ++ news) l' → m + k ≤ c' → K (.slice q (m + k) c') (l' ++ L)) :
    EF P W n L E ⟨d, .call ⟨.builtin .append, #[x, y], #[T, T]⟩, t, pos, after, g⟩ K := by
  refine ⟨fun a w ha hw => ?_⟩
  have hrun : (execOp a.eval ⟨d, .call ⟨.builtin .append, #[x, y], #[T, T]⟩, t, pos, after, g⟩).run P w = ((Builtin.append_ #[T, T] t #[.slice (some ⟨b, o, none⟩) m m, .slice p k c]).run P w).andThen fun v w => .ok (.value v) w := by
    simp [execOp, resolve, invoke, builtin, ha.eval hx, ha.eval hy]
  rw [hrun]
  obtain ⟨i, hi1, hi2, hi3, hi4, hzz⟩ := hI.h
  subst hi3; subst hi4
  have hpos : 0 < news.length := by rw [hk]; exact Nat.mul_pos hk0 hs
  obtain ⟨b0, o0, hp, _⟩ := hsrc 0 _ (List.getElem?_eq_getElem hpos)
  subst hp
  have hnews : ∀ j u, news[j]? = some u → w.cell? ((⟨b0, o0, none⟩ : Addr).add j) = some u := fun j u hj => by
    obtain ⟨b', o', hbo, hc⟩ := hsrc j u hj
    simp only [Option.some.injEq, Addr.mk.injEq] at hbo
    obtain ⟨rfl, rfl, _⟩ := hbo
    rw [add_zero']; exact hc.get hw
  have holds : ∀ j u, xs[j]? = some u → w.cell? ((⟨b, o, none⟩ : Addr).add j) = some u := fun j u hj => by
    obtain ⟨b', o', hbo, hc⟩ := hold j u hj
    simp only [Option.some.injEq, Addr.mk.injEq] at hbo
    obtain ⟨rfl, rfl, _⟩ := hbo
    rw [add_zero']; exact hc.get hw
  have hr := run_append_grow (P := P) w T t e i z hT.h hi1 hi2 ⟨b, o, none⟩ m m xs hxl holds ⟨b0, o0, none⟩ k c news hk hnews (by omega) (by omega) (growslice_fits (by omega) hfit)
  rw [hr]
  have hge := grownCap_ge w (m + k) m e
  refine ⟨_, hw.drew.alloc _, hK _ _ [(w.heap.size, .cells (xs.toArray ++ news.toArray ++ Builtin.zeroCells z.cells (grownCap w (m + k) m e - (m + k))) e (0, 0))] (.inr ⟨w.heap.size, _, grownCap w (m + k) m e, rfl, rfl, by omega, ?_, ?_⟩) (by omega)⟩
  · simp only [Array.size_append, List.size_toArray, size_zeroCells, hk, hxl]
    rw [hzz, ← Nat.add_mul, ← Nat.add_mul]
    congr 1
    omega
  · have : (m + k) * i.size = (xs ++ news).length := by rw [List.length_append, hxl, hk, Nat.add_mul]
    rw [this]
    simp only [Array.toList_append, List.append_assoc]
    rw [← List.append_assoc]
    exact List.take_left
theorem rd_sl3Hi {T e m b o len cap : Nat} {x hi mx : Operand} {k' k'' : IntKind} {j q : Int} [hT : Sl P T e] [hS : Ts P e m] (hx : ev E x = some (.slice (some ⟨b, o, none⟩) len cap)) (hh : ev E hi = some (.int k' j)) (hm : ev E mx = some (.int k'' q))
    (h0 : 0 ≤ j) (h2 : j ≤ q) (h3 : q ≤ cap) :
    RD P W n L E ⟨d, .slice T x none (some hi) (some mx), t, pos, after, g⟩ (.slice (some ⟨b, o, none⟩) j.toNat q.toNat) := .mk fun a w ha hw => by
  have hB := hS.h w
  have e2 : 0 ≤ q := by omega
  have e3 : j ≤ (q.toNat : Int) := by omega
  have e5 : j ≤ max q 0 := by omega
  simp [execOp, ha.eval hx, ha.eval hh, ha.eval hm, Instr.sliceAt, Instr.slice, Instr.sliceBounds, Instr.sliceBound, run_underlying hT.h, asIntOf, hB, h0, h2, h3, e2, e3, e5, add_zero']
/-- A text from a place on. -/
theorem rd_strLo {T : Nat} {x lo : Operand} {k : IntKind} {i : Int} {s : ByteArray} [hT : St P T] (hx : ev E x = some (.string s)) (hl : ev E lo = some (.int k i)) (h0 : 0 ≤ i) (h1 : i ≤ s.size) :
    RD P W n L E ⟨d, .slice T x (some lo) none none, t, pos, after, g⟩ (.string (s.extract i.toNat s.size)) := .mk fun a w ha hw => by
  simp [execOp, ha.eval hx, ha.eval hl, Instr.sliceAt, Instr.slice, Instr.sliceBounds, Instr.sliceBound, run_underlying hT.h, asIntOf, h0, h1]
end
/-! ### several that come up together, guarded or not -/
section
variable {P : Program} {W : World} {n : Nat} {ops : Array Oper} {Q : Exit → Act → World → Prop} {M L : List Blk} {E : List (Nat × Value)} {pm tm : List Nat} {fuel m : Nat}
structure XMS (P : Program) (W : World) (n : Nat) (ops : Array Oper) (Q : Exit → Act → World → Prop) (M : List Blk) (pm tm : List Nat) (fuel m : Nat) (L : List Blk) (E : List (Nat × Value)) (i : Nat) : Prop where
  run : pmOf ops = pm → tmOf ops = tm → Region.noSelect ops = true → ∀ listed, Rep ops.size listed m → ∀ a w, Env n a E → Hp W w L →
    wpOp P ops (NoPanic Q) i (fun a' w' => Hp W w' M ∧ wpAnyH P .any ops (NoPanic Q) (fun w => Hp W w M) fuel (listed.setIfInBounds i true) a' w') a w
theorem xms_ef (i : Nat) {m' : Nat} {d : Option Nat} {op : Op} {t : TypeId} {pos : String} {after : Array Edge} (hi : ops[i]? = some ⟨d, op, t, pos, after, none⟩) (hd : okd n d = true) (hm : m ||| (1 <<< i) = m')
    (hv : EF P W n L E ⟨d, op, t, pos, after, none⟩ (fun v L' => Sb M L' ∧ XM P W n ops Q M pm tm fuel m' L' (pt E d v))) : XMS P W n ops Q M pm tm fuel m L E i := ⟨fun h1 h2 h3 listed hrp a w ha hw => xm_step h1 h2 h3 hi hd hm hrp hv ha hw⟩
theorem xms_gef (i : Nat) {m' : Nat} {d : Option Nat} {op : Op} {t : TypeId} {pos : String} {after : Array Edge} {g gt : Nat} {b : Bool} (hi : ops[i]? = some ⟨d, op, t, pos, after, some (g, b)⟩) (hd : okd n d = true) (hg : (ops[g]?).bind (·.dst) = some gt) (ht : lk E gt = some (.bool b)) (hm : m ||| (1 <<< i) = m')
    (hv : EF P W n L E ⟨d, op, t, pos, after, some (g, b)⟩ (fun v L' => Sb M L' ∧ XM P W n ops Q M pm tm fuel m' L' (pt E d v))) : XMS P W n ops Q M pm tm fuel m L E i := ⟨fun h1 h2 h3 listed hrp a w ha hw => by
  unfold wpOp
  simp only [hi, Region.wanted, yielded_of (ops := ops) ha hg ht, beq_self_eq_true, if_true]
  refine .inl ?_
  unfold Oper.wp
  exact effUp.upon (hv.run a w ha hw) fun v w' ⟨L', h5, h6, h7⟩ => ⟨h6.hp h5, h7.run h1 h2 h3 _ (hm ▸ hrp.set (Array.getElem?_eq_some_iff.1 hi).1) _ _ (ha.pt d v hd) h5⟩⟩
theorem xm_l2 (i k : Nat) (hr : readyM pm.zipIdx m = [i, k]) (s1 : XMS P W n ops Q M pm tm fuel m L E i) (s2 : XMS P W n ops Q M pm tm fuel m L E k) : XM P W n ops Q M pm tm (fuel + 1) m L E := .mk fun h1 h2 h3 listed hrp a w ha hw => by
  have hmem : ∀ j, j ∈ Region.ready .any ops listed ↔ j = i ∨ j = k := fun j => by
    rw [ready_readyM hrp, h1, hr]; simp
  refine ⟨fun h => ?_, fun j hj => ?_⟩
  · have := (hmem i).2 (.inl rfl)
    rw [h] at this; cases this
  · rcases (hmem j).1 hj with rfl | rfl
    · exact s1.run h1 h2 h3 listed hrp a w ha hw
    · exact s2.run h1 h2 h3 listed hrp a w ha hw
theorem xm_l3 (i k l : Nat) (hr : readyM pm.zipIdx m = [i, k, l]) (s1 : XMS P W n ops Q M pm tm fuel m L E i) (s2 : XMS P W n ops Q M pm tm fuel m L E k) (s3 : XMS P W n ops Q M pm tm fuel m L E l) : XM P W n ops Q M pm tm (fuel + 1) m L E := .mk fun h1 h2 h3 listed hrp a w ha hw => by
  have hmem : ∀ j, j ∈ Region.ready .any ops listed ↔ j = i ∨ j = k ∨ j = l := fun j => by
    rw [ready_readyM hrp, h1, hr]; simp
  refine ⟨fun h => ?_, fun j hj => ?_⟩
  · have := (hmem i).2 (.inl rfl)
    rw [h] at this; cases this
  · rcases (hmem j).1 hj with rfl | rfl | rfl
    · exact s1.run h1 h2 h3 listed hrp a w ha hw
    · exact s2.run h1 h2 h3 listed hrp a w ha hw
    · exact s3.run h1 h2 h3 listed hrp a w ha hw
end
end Go.Proofs.Ytoolgphkfnkajaa.X
/-
  Words of my own for walks, twenty-sixth part: an owned row that begins anywhere in its block. No condition; generic over the program.
-/
namespace Go.Proofs.Ytoolgphkfnkajaa.X
open Go Go.RowKit
set_option linter.unusedVariables false
set_option linter.unusedSimpArgs false
/-- An owned row, from a place of its block on. -/
def SlQ (s : Nat) (e : TypeId) (v : Value) (m : Nat) (xs : List Value) (l : List Blk) : Prop :=
  (v = .slice none 0 0 ∧ m = 0 ∧ xs = [] ∧ l = []) ∨
  ∃ b o cs cap, v = .slice (some ⟨b, o, none⟩) m cap ∧ l = [(b, .cells cs e (0, 0))] ∧ m ≤ cap ∧ o + cap * s ≤ cs.size ∧ (cs.toList.drop o).take (m * s) = xs
theorem SlQ.nil {s : Nat} {e : TypeId} : SlQ s e (.slice none 0 0) 0 [] [] := .inl ⟨rfl, rfl, rfl, rfl⟩
theorem SlO.q {s : Nat} {e : TypeId} {v : Value} {m : Nat} {xs : List Value} {l : List Blk} (h : SlO s e v m xs l) : SlQ s e v m xs l := by
  rcases h with h | ⟨b, cs, cap, h1, h2, h3, h4, h5⟩
  · exact .inl h
  · exact .inr ⟨b, 0, cs, cap, h1, h2, h3, by omega, by simpa using h5⟩
theorem SlQ.len {s : Nat} {e : TypeId} {v : Value} {m : Nat} {xs : List Value} {l : List Blk} (h : SlQ s e v m xs l) : xs.length = m * s := by
  rcases h with ⟨_, rfl, rfl, _⟩ | ⟨b, o, cs, cap, h1, h2, h3, h4, h5⟩
  · simp
  · rw [← h5, List.length_take, List.length_drop, Array.length_toList]
    have : m * s ≤ cap * s := Nat.mul_le_mul_right _ h3
    omega
theorem SlQ.opn {s : Nat} {e : TypeId} {v : Value} {m : Nat} {xs : List Value} {l : List Blk} (h : SlQ s e v m xs l) : ∃ p c, v = .slice p m c ∧ SlQ s e (.slice p m c) m xs l ∧ m ≤ c := by
  have h' := h
  rcases h with ⟨rfl, rfl, rfl, rfl⟩ | ⟨b, o, cs, cap, h1, h2, h3, h4, h5⟩
  · exact ⟨none, 0, rfl, h', Nat.le_refl _⟩
  · exact ⟨_, cap, h1, h1 ▸ h', h3⟩
theorem SlQ.rs {W : World} {L : List Blk} {s : Nat} {e : TypeId} {p : Option Addr} {m c : Nat} {xs : List Value} {l : List Blk} (h : SlQ s e (.slice p m c) m xs l) (hl : ∀ q, q ∈ l → q ∈ L) : Rs W L p xs := by
  rcases h with ⟨_, _, rfl, _⟩ | ⟨b, o, cs, cap, h1, rfl, h3, h4, h5⟩
  · exact Rs.nil
  · intro j u hj
    simp only [Value.slice.injEq] at h1
    refine ⟨b, o, h1.1, Cl.own (hl _ (List.mem_singleton.2 rfl)) ?_⟩
    rw [← h5, List.getElem?_take] at hj
    split at hj
    · rw [List.getElem?_drop] at hj
      simpa using hj
    · cases hj
theorem SlQ.rsl {W : World} {s : Nat} {e : TypeId} {p : Option Addr} {m c : Nat} {xs : List Value} {l R : List Blk} (h : SlQ s e (.slice p m c) m xs l) : Rs W (l ++ R) p xs := h.rs fun _ hq => List.mem_append_left _ hq
/-- The row behind its first elements. -/
theorem SlQ.cut {s : Nat} {e : TypeId} {p : Option Addr} {m c : Nat} {xs : List Value} {l : List Blk} (h : SlQ s e (.slice p m c) m xs l) (k : Nat) (hk : k ≤ m) :
    SlQ s e (.slice (slp p c k s) (m - k) (c - k)) (m - k) (xs.drop (k * s)) l := by
  rcases h with ⟨h1, rfl, rfl, rfl⟩ | ⟨b, o, cs, cap, h1, rfl, h3, h4, h5⟩
  · simp only [Value.slice.injEq] at h1
    obtain ⟨rfl, _, rfl⟩ := h1
    have : k = 0 := by omega
    subst this
    exact .inl ⟨by unfold slp; simp, rfl, by simp, rfl⟩
  · simp only [Value.slice.injEq, true_and] at h1
    obtain ⟨rfl, rfl⟩ := h1
    unfold slp
    split
    · rename_i hc
      have : m - k = 0 := by omega
      refine .inr ⟨b, o, cs, c - k, rfl, rfl, by omega, ?_, ?_⟩
      · have : (c - k) * s ≤ c * s := Nat.mul_le_mul_right _ (by omega)
        omega
      · rw [this, Nat.zero_mul, List.take_zero, ← h5, List.drop_eq_nil_of_le]
        rw [List.length_take]
        have : m * s ≤ k * s := Nat.mul_le_mul_right _ (by omega)
        omega
    · refine .inr ⟨b, o + k * s, cs, c - k, by rw [Option.map_some, add_zero'], rfl, by omega, ?_, ?_⟩
      · have : (c - k) * s + k * s = c * s := by rw [← Nat.add_mul]; congr 1; omega
        omega
      · rw [← h5, List.drop_take, List.drop_drop, ← Nat.sub_mul]
section
variable {P : Program} (w : World)
theorem run_append_roomAt (t ty e : TypeId) (i : TypeInfo) (ht : P.underlying t = some (.slice e)) (hi : P.info? e = some i)
    (b off sLen sCap : Nat) (cur : Array Value) (hg : w.heap[b]? = some (.cells cur e (0, 0))) (a : Addr) (m c : Nat) (news : List Value) (hl : news.length = m * i.size) (hnews : ∀ j u, news[j]? = some u → w.cell? (a.add j) = some u) (h1 : ∀ u ∈ news, u.oneCell' = true)
    (hroom : sLen + m ≤ sCap) (hfit : off + sLen * i.size + news.length ≤ cur.size) :
    (Builtin.append_ #[t, t] ty #[.slice (some ⟨b, off, none⟩) sLen sCap, .slice (some a) m c]).run P w = .ok (.slice (some ⟨b, off, none⟩) (sLen + m) sCap) (w.setRow b (cur.toList.take (off + sLen * i.size) ++ news ++ cur.toList.drop (off + sLen * i.size + news.length)).toArray) := by
  have hfc := run_firstCells_some (P := P) w i.size m a m c news hl hnews
  have hst := run_storeCells_at P b (off + sLen * i.size) e news 0 cur w hg (by omega) h1
  simp only [Nat.add_zero] at hst
  simp [Builtin.append_, run_underlying ht, sizeOf, typeInfo, hi, Builtin.lenOf, hroom, hfc, Addr.add_lit, hst]
end
theorem take_mid {α : Type} (cs : List α) (o n : Nat) (xs news : List α) (hx : (cs.drop o).take n = xs) (hn : xs.length = n) (ho : o + n ≤ cs.length) :
    ((cs.take (o + n) ++ news ++ cs.drop (o + n + news.length)).drop o).take (n + news.length) = xs ++ news := by
  have e : cs.take (o + n) = cs.take o ++ xs := by rw [List.take_add, hx]
  have hl : (cs.take o).length = o := by rw [List.length_take]; omega
  rw [e, List.append_assoc, List.append_assoc, List.drop_left' hl, ← List.append_assoc, List.take_left' (by rw [List.length_append, hn])]
section
variable {P : Program} {W : World} {n : Nat} {L : List Blk} {E : List (Nat × Value)} {Q : Exit → Act → World → Prop} {d : Option Nat} {t : TypeId} {pos : String} {after : Array Edge} {g : Option (Nat × Bool)} {K : Value → List Blk → Prop}
theorem ef_appendQ (A R l : List Blk) {T e s bt : Nat} {z : Value} {x y : Operand} {v : Value} {m k c : Nat} {p : Option Addr} {xs news : List Value} [hT : Sl P T e] [hI : Inf P e z s bt]
    (hx : ev E x = some v) (hy : ev E y = some (.slice p k c)) (hO : SlQ s e v m xs l) (hL : L = A ++ (l ++ R)) (hsrc : Rs W L p news) (hk : news.length = k * s) (h1a : news.all (·.oneCell') = true) (hs : 0 < s)
    (hfit : (m + k) * bt ≤ 140737488355328) (hsm : m + k ≤ 9223372036854775807) (hK : ∀ v' l', SlQ s e v' (m + k) (xs ++ news) l' → K v' (A ++ (l' ++ R))) :
    EF P W n L E ⟨d, .call ⟨.builtin .append, #[x, y], #[T, T]⟩, t, pos, after, g⟩ K := by
  have hxl := hO.len
  rcases hO with ⟨rfl, rfl, rfl, rfl⟩ | ⟨b, o, cs, cap, rfl, rfl, hmc, hcs, htk⟩
  · exact ef_append A R [] hx hy SlO.nil hL hsrc hk h1a hs hfit hsm fun v' l' h => hK v' l' h.q
  have h1 : ∀ u ∈ news, u.oneCell' = true := List.all_eq_true.1 h1a
  refine ⟨fun a w ha hw => ?_⟩
  have hrun : (execOp a.eval ⟨d, .call ⟨.builtin .append, #[x, y], #[T, T]⟩, t, pos, after, g⟩).run P w = ((Builtin.append_ #[T, T] t #[.slice (some ⟨b, o, none⟩) m cap, .slice p k c]).run P w).andThen fun v w => .ok (.value v) w := by
    simp [execOp, resolve, invoke, builtin, ha.eval hx, ha.eval hy]
  rw [hrun]
  obtain ⟨i, hi1, hi2, hi3, hi4, hzz⟩ := hI.h
  subst hi3; subst hi4
  by_cases hk0 : k = 0
  · subst hk0
    have hn : news = [] := List.eq_nil_of_length_eq_zero (by simpa using hk)
    subst hn
    rw [run_append_zero (some ⟨b, o, none⟩) p m cap c w hmc]
    refine ⟨_, hw, ?_⟩
    rw [hL]
    exact hK _ _ (.inr ⟨b, o, cs, cap, rfl, rfl, hmc, hcs, by simpa using htk⟩)
  · have hpos : 0 < news.length := by rw [hk]; exact Nat.mul_pos (by omega) hs
    obtain ⟨b0, o0, hp, _⟩ := hsrc 0 _ (List.getElem?_eq_getElem hpos)
    subst hp
    have hnews : ∀ (w' : World), Hp W w' L → ∀ j u, news[j]? = some u → w'.cell? ((⟨b0, o0, none⟩ : Addr).add j) = some u := fun w' hw' j u hj => by
      obtain ⟨b', o', hbo, hc⟩ := hsrc j u hj
      simp only [Option.some.injEq, Addr.mk.injEq] at hbo
      obtain ⟨rfl, rfl, _⟩ := hbo
      rw [add_zero']; exact hc.get hw'
    have hw2 := hw
    rw [hL] at hw2
    by_cases hroom : m + k ≤ cap
    · have hmk : (m + k) * i.size ≤ cap * i.size := Nat.mul_le_mul_right _ hroom
      rw [Nat.add_mul] at hmk
      have hfit' : o + m * i.size + news.length ≤ cs.size := by rw [hk]; omega
      have hr := run_append_roomAt (P := P) w T t e i hT.h hi1 b o m cap cs hw2.mid ⟨b0, o0, none⟩ k c news hk (hnews w hw) h1 hroom hfit'
      rw [hr]
      refine ⟨_, hw2.turnAt rfl rfl rfl (setRow_heap w b cs _ e (0, 0) hw2.mid) (fun q hq => setRow_other w b q _ hq), hK _ [(b, .cells (cs.toList.take (o + m * i.size) ++ news ++ cs.toList.drop (o + m * i.size + news.length)).toArray e (0, 0))] (.inr ⟨b, o, _, cap, rfl, rfl, hroom, ?_, ?_⟩)⟩
      · simp only [List.size_toArray, List.length_append, List.length_take, List.length_drop, Array.length_toList]
        omega
      · rw [Nat.add_mul, ← hk]
        exact take_mid _ _ _ _ _ htk hxl (by rw [Array.length_toList]; omega)
    · have holds : ∀ j u, xs[j]? = some u → w.cell? ((⟨b, o, none⟩ : Addr).add j) = some u := fun j u hj => by
        rw [add_zero']
        have hR : Rs W L (some ⟨b, o, none⟩) xs := SlQ.rs (s := i.size) (e := e) (m := m) (c := cap) (l := [(b, .cells cs e (0, 0))]) (.inr ⟨b, o, cs, cap, rfl, rfl, hmc, hcs, htk⟩) (by rw [hL]; simp)
        obtain ⟨b', o', hbo, hc⟩ := hR j u hj
        simp only [Option.some.injEq, Addr.mk.injEq] at hbo
        obtain ⟨rfl, rfl, _⟩ := hbo
        exact hc.get hw
      have hr := run_append_grow (P := P) w T t e i z hT.h hi1 hi2 ⟨b, o, none⟩ m cap xs hxl holds ⟨b0, o0, none⟩ k c news hk (hnews w hw) (by omega) (by omega) (growslice_fits (by omega) hfit)
      rw [hr]
      have hge := grownCap_ge w (m + k) cap e
      have hO' : SlO i.size e (.slice (some ⟨w.heap.size, 0, none⟩) (m + k) (grownCap w (m + k) cap e)) (m + k) (xs ++ news) [(w.heap.size, .cells (xs.toArray ++ news.toArray ++ Builtin.zeroCells z.cells (grownCap w (m + k) cap e - (m + k))) e (0, 0))] := by
        refine .inr ⟨w.heap.size, _, grownCap w (m + k) cap e, rfl, rfl, by omega, ?_, ?_⟩
        · simp only [Array.size_append, List.size_toArray, size_zeroCells, hk, hxl]
          rw [hzz, ← Nat.add_mul, ← Nat.add_mul]
          congr 1
          omega
        · have : (m + k) * i.size = (xs ++ news).length := by rw [List.length_append, hxl, hk, Nat.add_mul]
          rw [this]
          simp only [Array.toList_append, List.append_assoc]
          rw [← List.append_assoc]
          exact List.take_left
      refine ⟨_, ((hw2.drew.alloc _).sub (L' := (w.heap.size, .cells (xs.toArray ++ news.toArray ++ Builtin.zeroCells z.cells (grownCap w (m + k) cap e - (m + k))) e (0, 0)) :: (A ++ R)) ?_).perm ?_, hK _ _ hO'.q⟩
      · refine List.Sublist.cons_cons _ ?_
        exact (List.Sublist.refl A).append (by simp)
      · simp only [List.singleton_append]
        exact List.perm_middle.symm
/-- One element of an owned row is written. -/
theorem ef_storeQ (A R : List Blk) {T m b o i cap : Nat} {x y : Operand} {v : Value} {xs : List Value} {k : Nat} {e : TypeId} {l : List Blk} {p : Option Addr} [hS : Ts P T m] (hO : SlQ m e (.slice p k cap) k xs l) (hx : ev E x = some (.pointer (some ⟨b, o + i * m, none⟩))) (hb : p = some ⟨b, o, none⟩) (hik : i < k) {vs : List Value} (hy : ev E y = some (.agg vs.toArray))
    (hv1 : vs.all (·.oneCell') = true) (hvm : vs.length = m)
    (hL : L = A ++ (l ++ R)) (hK : ∀ l', SlQ m e (.slice p k cap) k (xs.take (i * m) ++ vs ++ xs.drop ((i + 1) * m)) l' → K undef (A ++ (l' ++ R))) : EF P W n L E ⟨d, .store T x y, t, pos, after, g⟩ K := by
  have hxl := hO.len
  rcases hO with ⟨h1, rfl, rfl, rfl⟩ | ⟨b', o', cs, cap', h1, rfl, h3, h4, h5⟩
  · omega
  · subst hb
    simp only [Value.slice.injEq, Option.some.injEq, Addr.mk.injEq, true_and, and_true] at h1
    obtain ⟨⟨rfl, rfl⟩, rfl⟩ := h1
    have e1 : (i + 1) * m ≤ k * m := Nat.mul_le_mul_right _ (by omega)
    have e2 : k * m ≤ cap * m := Nat.mul_le_mul_right _ h3
    have e3 : (i + 1) * m = i * m + m := by rw [Nat.add_mul, Nat.one_mul]
    refine ef_storeN A R hx hy hv1 hvm (by rw [hL]; rfl) (by omega) (hK [_] (.inr ⟨b, o, _, cap, rfl, rfl, h3, ?_, ?_⟩))
    · simp only [List.size_toArray, List.length_append, List.length_take, List.length_drop, Array.length_toList]
      omega
    · have hl : (cs.toList.take o).length = o := by rw [List.length_take, Array.length_toList]; omega
      have ex : cs.toList.drop o = xs ++ cs.toList.drop (o + k * m) := by
        rw [← h5, ← List.drop_drop, List.take_append_drop]
      have ea : cs.toList.take (o + i * m) = cs.toList.take o ++ xs.take (i * m) := by
        rw [List.take_add, ex, List.take_append_of_le_length (by omega)]
      have eb : cs.toList.drop (o + i * m + vs.length) = xs.drop ((i + 1) * m) ++ cs.toList.drop (o + k * m) := by
        rw [hvm, Nat.add_assoc, ← e3, ← List.drop_drop, ex, List.drop_append_of_le_length (by omega)]
      simp only []
      rw [ea, eb]
      simp only [List.append_assoc]
      rw [List.drop_left' hl]
      have : (xs.take (i * m) ++ (vs ++ xs.drop ((i + 1) * m))).length = k * m := by
        simp only [List.length_append, List.length_take, List.length_drop, hxl]; omega
      rw [← List.append_assoc vs, ← List.append_assoc, List.take_left' this]
end
end Go.Proofs.Ytoolgphkfnkajaa.X
/-
  Words of my own for walks, twenty-seventh part: structs of numbers and truths, compared. No condition; generic over the program.
-/
namespace Go.Proofs.Ytoolgphkfnkajaa.X
open Go Go.RowKit
set_option linter.unusedVariables false
set_option linter.unusedSimpArgs false
section
variable {P : Program}
inductive FlatV (P : Program) (xs ys : Array Value) : List (String × Nat × Nat) → List Value → List Value → Prop
  | nil : FlatV P xs ys [] [] []
  | int {nm : String} {T off : Nat} {k : IntKind} {a b : Int} {ms : List (String × Nat × Nat)} {us vs : List Value} [hA : Ta P T false] [hI : Ik P T k] (hn : nm ≠ "_") (hx : xs[off]? = some (.int k a)) (hy : ys[off]? = some (.int k b)) (h : FlatV P xs ys ms us vs) : FlatV P xs ys ((nm, T, off) :: ms) (.int k a :: us) (.int k b :: vs)
  | bool {nm : String} {T off : Nat} {a b : Bool} {ms : List (String × Nat × Nat)} {us vs : List Value} [hA : Ta P T false] [hI : Bo P T] (hn : nm ≠ "_") (hx : xs[off]? = some (.bool a)) (hy : ys[off]? = some (.bool b)) (h : FlatV P xs ys ms us vs) : FlatV P xs ys ((nm, T, off) :: ms) (.bool a :: us) (.bool b :: vs)
theorem eqFields_flat (w : World) (d : Nat) {xs ys : Array Value} {ms : List (String × Nat × Nat)} {us vs : List Value} (h : FlatV P xs ys ms us vs) : ∀ fs : List Field, fs.map (fun f => (f.name, f.type, f.offset)) = ms →
    ∃ r, (Op.eqFields (d + 1) xs ys fs).run P w = .ok r w ∧ (r = true ↔ us = vs) := by
  induction h with
  | nil =>
    intro fs hf
    have : fs = [] := by simpa using hf
    subst this
    exact ⟨true, by simp [Op.eqFields], by simp⟩
  | @int nm T off k a b ms us vs hA hI hn hx hy h ih =>
    intro fs hf
    obtain ⟨f, fs, rfl, hf1, hf2⟩ := List.map_eq_cons_iff.1 hf
    simp only [Prod.mk.injEq] at hf1
    obtain ⟨rfl, rfl, rfl⟩ := hf1
    obtain ⟨r, hr, hi⟩ := ih fs hf2
    have hB := hA.h w
    have he := run_equalIn_int w d f.type k k a b hI.h
    by_cases hab : a = b
    · subst hab
      refine ⟨r, ?_, by simp [hi]⟩
      simp [Op.eqFields, hn, part, hB, hx, hy, he, hr]
    · refine ⟨false, ?_, by simp [hab]⟩
      simp [Op.eqFields, hn, part, hB, hx, hy, he, hab]
  | @bool nm T off a b ms us vs hA hI hn hx hy h ih =>
    intro fs hf
    obtain ⟨f, fs, rfl, hf1, hf2⟩ := List.map_eq_cons_iff.1 hf
    simp only [Prod.mk.injEq] at hf1
    obtain ⟨rfl, rfl, rfl⟩ := hf1
    obtain ⟨r, hr, hi⟩ := ih fs hf2
    have hB := hA.h w
    have he := run_equalIn_bool w d f.type a b hI.h
    by_cases hab : a = b
    · subst hab
      refine ⟨r, ?_, by simp [hi]⟩
      simp [Op.eqFields, hn, part, hB, hx, hy, he, hr]
    · refine ⟨false, ?_, by simp [hab]⟩
      have : (a == b) = false := by simpa using hab
      simp [Op.eqFields, hn, part, hB, hx, hy, he, this]
/-- What it takes to compare two such structs. -/
structure EqS (P : Program) (T : Nat) (us vs : List Value) (r : Bool) : Prop where
  h : ∀ w, (Op.equalIn 10000 T (.agg us.toArray) (.agg vs.toArray)).run P w = .ok r w
  g : P.eqGuardType P.depth T = false
theorem EqS.of {T : Nat} {us vs : List Value} {r : Bool} (ms : List (String × Nat × Nat)) (ht : P.underlying T = some (.struct (P.fieldsOf T))) (hp : P.stoodInHeld T = false) (hm : (P.fieldsOf T).toList.map (fun f => (f.name, f.type, f.offset)) = ms) (hg : P.eqGuardType P.depth T = false)
    (hf : FlatV P us.toArray vs.toArray ms us vs) (hr : r = true ↔ us = vs) : EqS P T us vs r := by
  refine ⟨fun w => ?_, hg⟩
  rw [run_equalIn_struct w 9999 T _ _ ht hp]
  obtain ⟨r', h1, h2⟩ := eqFields_flat w 9998 hf _ hm
  rw [h1]
  have : r' = r := by
    rw [Bool.eq_iff_iff, h2, hr]
  rw [this]
variable {W : World} {n : Nat} {L : List Blk} {E : List (Nat × Value)} {d : Option Nat} {t : TypeId} {pos : String} {after : Array Edge} {g : Option (Nat × Bool)}
theorem rd_eqS {T T' : Nat} {x y : Operand} {us vs : List Value} {r : Bool} (h : EqS P T us vs r) (hx : ev E x = some (.agg us.toArray)) (hy : ev E y = some (.agg vs.toArray)) :
    RD P W n L E ⟨d, .binOp .eql T x y T', t, pos, after, g⟩ (.bool r) := rd_bin hx hy fun w => by
  simp only [Sem.run_bind, run_eqGuard_agg w _ T x y _ _ h.g, Result.andThen_ok, run_eql_struct, h.h w]
theorem rd_neS {T T' : Nat} {x y : Operand} {us vs : List Value} {r : Bool} (h : EqS P T us vs r) (hx : ev E x = some (.agg us.toArray)) (hy : ev E y = some (.agg vs.toArray)) :
    RD P W n L E ⟨d, .binOp .neq T x y T', t, pos, after, g⟩ (.bool (!r)) := rd_bin hx hy fun w => by
  simp only [Sem.run_bind, run_eqGuard_agg w _ T x y _ _ h.g, Result.andThen_ok, run_neq_struct, h.h w]
end
end Go.Proofs.Ytoolgphkfnkajaa.X
/-
  Words of my own for walks, twenty-eighth part: cells of an owned row that begins anywhere, written. No condition; generic over the program.
-/
namespace Go.Proofs.Ytoolgphkfnkajaa.X
open Go Go.RowKit
set_option linter.unusedVariables false
set_option linter.unusedSimpArgs false
/-- Cells in a row of an own block. -/
theorem cl_sub {W : World} {L : List Blk} {b : Nat} {T : TypeId} {fr : Nat × Nat} {vs sub : List Value} (i : Nat) (h : (b, Obj.cells vs.toArray T fr) ∈ L) (hs : (vs.drop i).take sub.length = sub) : ∀ (j : Nat) (u : Value), sub[j]? = some u → Cl W L b (i + j) u := fun j u hj => by
  refine Cl.own h ?_
  rw [← hs, List.getElem?_take] at hj
  split at hj
  · rw [List.getElem?_drop] at hj
    simpa using hj
  · cases hj
section
variable {P : Program} {W : World} {n : Nat} {L : List Blk} {E : List (Nat × Value)} {Q : Exit → Act → World → Prop} {d : Option Nat} {t : TypeId} {pos : String} {after : Array Edge} {g : Option (Nat × Bool)} {K : Value → List Blk → Prop}
/-- Some cells of an owned row are written, from one of them on. -/
theorem ef_storeQs (A R : List Blk) (j : Nat) {T m s b o c cap : Nat} {x y : Operand} {vs xs : List Value} {k : Nat} {e : TypeId} {l : List Blk} {p : Option Addr} [hS : Ts P T s] (hO : SlQ m e (.slice p k cap) k xs l) (hx : ev E x = some (.pointer (some ⟨b, c, none⟩))) (hc : c = o + j) (hb : p = some ⟨b, o, none⟩) (hy : ev E y = some (.agg vs.toArray))
    (hv1 : vs.all (·.oneCell') = true) (hvs : vs.length = s) (hj : j + s ≤ k * m)
    (hL : L = A ++ (l ++ R)) (hK : ∀ l', SlQ m e (.slice p k cap) k (xs.take j ++ vs ++ xs.drop (j + s)) l' → K undef (A ++ (l' ++ R))) : EF P W n L E ⟨d, .store T x y, t, pos, after, g⟩ K := by
  have hxl := hO.len
  subst hc
  rcases hO with ⟨h1, h2, rfl, rfl⟩ | ⟨b', o', cs, cap', h1, rfl, h3, h4, h5⟩
  · subst hb
    simp only [Value.slice.injEq] at h1
    obtain ⟨h1, _⟩ := h1
    cases h1
  · subst hb
    simp only [Value.slice.injEq, Option.some.injEq, Addr.mk.injEq, true_and, and_true] at h1
    obtain ⟨⟨rfl, rfl⟩, rfl⟩ := h1
    have e2 : k * m ≤ cap * m := Nat.mul_le_mul_right _ h3
    refine ef_storeN A R hx hy hv1 hvs (by rw [hL]; rfl) (by omega) (hK [_] (.inr ⟨b, o, _, cap, rfl, rfl, h3, ?_, ?_⟩))
    · simp only [List.size_toArray, List.length_append, List.length_take, List.length_drop, Array.length_toList]
      omega
    · have hl : (cs.toList.take o).length = o := by rw [List.length_take, Array.length_toList]; omega
      have ex : cs.toList.drop o = xs ++ cs.toList.drop (o + k * m) := by
        rw [← h5, ← List.drop_drop, List.take_append_drop]
      have ea : cs.toList.take (o + j) = cs.toList.take o ++ xs.take j := by
        rw [List.take_add, ex, List.take_append_of_le_length (by omega)]
      have eb : cs.toList.drop (o + j + vs.length) = xs.drop (j + s) ++ cs.toList.drop (o + k * m) := by
        rw [hvs, Nat.add_assoc, ← List.drop_drop, ex, List.drop_append_of_le_length (by omega)]
      simp only []
      rw [ea, eb]
      simp only [List.append_assoc]
      rw [List.drop_left' hl]
      have : (xs.take j ++ (vs ++ xs.drop (j + s))).length = k * m := by
        simp only [List.length_append, List.length_take, List.length_drop, hxl]; omega
      rw [← List.append_assoc vs, ← List.append_assoc, List.take_left' this]
/-- One cell of an owned row is written. -/
theorem ef_storeQ1 (A R : List Blk) (j : Nat) {T m b o c cap : Nat} {x y : Operand} {v : Value} {xs : List Value} {k : Nat} {e : TypeId} {l : List Blk} {p : Option Addr} [hS : Ts P T 1] (hO : SlQ m e (.slice p k cap) k xs l) (hx : ev E x = some (.pointer (some ⟨b, c, none⟩))) (hc : c = o + j) (hb : p = some ⟨b, o, none⟩) (hy : ev E y = some v)
    (hv1 : v.oneCell' = true) (hj : j < k * m)
    (hL : L = A ++ (l ++ R)) (hK : ∀ l', SlQ m e (.slice p k cap) k (xs.set j v) l' → K undef (A ++ (l' ++ R))) : EF P W n L E ⟨d, .store T x y, t, pos, after, g⟩ K := by
  have hxl := hO.len
  subst hc
  rcases hO with ⟨h1, h2, rfl, rfl⟩ | ⟨b', o', cs, cap', h1, rfl, h3, h4, h5⟩
  · subst hb
    simp only [Value.slice.injEq] at h1
    obtain ⟨h1, _⟩ := h1
    cases h1
  · subst hb
    simp only [Value.slice.injEq, Option.some.injEq, Addr.mk.injEq, true_and, and_true] at h1
    obtain ⟨⟨rfl, rfl⟩, rfl⟩ := h1
    have e2 : k * m ≤ cap * m := Nat.mul_le_mul_right _ h3
    have hlt : o + j < cs.toList.length := by rw [Array.length_toList]; omega
    refine ef_store1 A R (vs := cs.toList) hx hy hv1 rfl (by rw [hL]; rfl) (List.getElem?_eq_getElem hlt) (hK [_] (.inr ⟨b, o, _, cap, rfl, rfl, h3, ?_, ?_⟩))
    · simp only [List.size_toArray, List.length_set, Array.length_toList]; exact h4
    · simp only []
      rw [← h5, List.drop_set, if_neg (by omega), List.take_set]
      congr 1; omega
/-- A few cells of a block are written; what then stands there is named. -/
theorem ef_storeW (A R : List Blk) (i : Nat) {T T' m b : Nat} {x y : Operand} {vs cs ws : List Value} [hS : Ts P T m] (hx : ev E x = some (.pointer (some ⟨b, i, none⟩))) (hy : ev E y = some (.agg vs.toArray)) (h1a : vs.all (·.oneCell') = true) (hm : vs.length = m)
    (hL : L = A ++ (b, .cells cs.toArray T' (0, 0)) :: R) (hi : i + m ≤ cs.length) (hw : cs.take i ++ vs ++ cs.drop (i + vs.length) = ws) (hk : K undef (A ++ (b, .cells ws.toArray T' (0, 0)) :: R)) : EF P W n L E ⟨d, .store T x y, t, pos, after, g⟩ K :=
  ef_storeN A R hx hy h1a hm hL (by simpa using hi) (by subst hw; simpa using hk)
theorem SlQ.pre {s : Nat} {e : TypeId} {p : Option Addr} {m c : Nat} {xs : List Value} {l : List Blk} (h : SlQ s e (.slice p m c) m xs l) (k : Nat) (hk : k ≤ m) : SlQ s e (.slice p k c) k (xs.take (k * s)) l := by
  rcases h with ⟨h1, rfl, rfl, rfl⟩ | ⟨b, o, cs, cap, h1, rfl, h3, h4, h5⟩
  · simp only [Value.slice.injEq] at h1
    obtain ⟨rfl, _, rfl⟩ := h1
    have : k = 0 := by omega
    subst this
    exact .inl ⟨rfl, rfl, by simp, rfl⟩
  · simp only [Value.slice.injEq, true_and] at h1
    obtain ⟨rfl, rfl⟩ := h1
    refine .inr ⟨b, o, cs, c, rfl, rfl, by omega, h4, ?_⟩
    rw [← h5, List.take_take, Nat.min_eq_left (Nat.mul_le_mul_right _ hk)]
/-- append, where there is room. -/
theorem ef_appendRoomQ (A R l : List Blk) {T e s bt : Nat} {z : Value} {x y : Operand} {m k c cap b o : Nat} {p : Option Addr} {xs news : List Value} [hT : Sl P T e] [hI : Inf P e z s bt]
    (hx : ev E x = some (.slice (some ⟨b, o, none⟩) m cap)) (hy : ev E y = some (.slice p k c)) (hO : SlQ s e (.slice (some ⟨b, o, none⟩) m cap) m xs l) (hL : L = A ++ (l ++ R)) (hsrc : Rs W L p news) (hk : news.length = k * s) (h1a : news.all (·.oneCell') = true) (hs : 0 < s)
    (hroom : m + k ≤ cap) (hK : ∀ l', SlQ s e (.slice (some ⟨b, o, none⟩) (m + k) cap) (m + k) (xs ++ news) l' → K (.slice (some ⟨b, o, none⟩) (m + k) cap) (A ++ (l' ++ R))) :
    EF P W n L E ⟨d, .call ⟨.builtin .append, #[x, y], #[T, T]⟩, t, pos, after, g⟩ K := by
  have hxl := hO.len
  rcases hO with ⟨h0, _⟩ | ⟨b', o', cs, cap', h0, rfl, hmc, hcs, htk⟩
  · cases h0
  simp only [Value.slice.injEq, Option.some.injEq, Addr.mk.injEq, true_and, and_true] at h0
  obtain ⟨⟨rfl, rfl⟩, rfl⟩ := h0
  have h1 : ∀ u ∈ news, u.oneCell' = true := List.all_eq_true.1 h1a
  refine ⟨fun a w ha hw => ?_⟩
  have hrun : (execOp a.eval ⟨d, .call ⟨.builtin .append, #[x, y], #[T, T]⟩, t, pos, after, g⟩).run P w = ((Builtin.append_ #[T, T] t #[.slice (some ⟨b, o, none⟩) m cap, .slice p k c]).run P w).andThen fun v w => .ok (.value v) w := by
    simp [execOp, resolve, invoke, builtin, ha.eval hx, ha.eval hy]
  rw [hrun]
  obtain ⟨i, hi1, hi2, hi3, hi4, hzz⟩ := hI.h
  subst hi3; subst hi4
  by_cases hk0 : k = 0
  · subst hk0
    have hn : news = [] := List.eq_nil_of_length_eq_zero (by simpa using hk)
    subst hn
    rw [run_append_zero (some ⟨b, o, none⟩) p m cap c w hmc]
    refine ⟨_, hw, ?_⟩
    rw [hL]
    exact hK _ (.inr ⟨b, o, cs, cap, rfl, rfl, hmc, hcs, by simpa using htk⟩)
  · have hpos : 0 < news.length := by rw [hk]; exact Nat.mul_pos (by omega) hs
    obtain ⟨b0, o0, hp, _⟩ := hsrc 0 _ (List.getElem?_eq_getElem hpos)
    subst hp
    have hnews : ∀ j u, news[j]? = some u → w.cell? ((⟨b0, o0, none⟩ : Addr).add j) = some u := fun j u hj => by
      obtain ⟨b', o', hbo, hc⟩ := hsrc j u hj
      simp only [Option.some.injEq, Addr.mk.injEq] at hbo
      obtain ⟨rfl, rfl, _⟩ := hbo
      rw [add_zero']; exact hc.get hw
    have hw2 := hw
    rw [hL] at hw2
    have hmk : (m + k) * i.size ≤ cap * i.size := Nat.mul_le_mul_right _ hroom
    rw [Nat.add_mul] at hmk
    have hfit' : o + m * i.size + news.length ≤ cs.size := by rw [hk]; omega
    have hr := run_append_roomAt (P := P) w T t e i hT.h hi1 b o m cap cs hw2.mid ⟨b0, o0, none⟩ k c news hk hnews h1 hroom hfit'
    rw [hr]
    refine ⟨_, hw2.turnAt rfl rfl rfl (setRow_heap w b cs _ e (0, 0) hw2.mid) (fun q hq => setRow_other w b q _ hq), hK [(b, .cells (cs.toList.take (o + m * i.size) ++ news ++ cs.toList.drop (o + m * i.size + news.length)).toArray e (0, 0))] (.inr ⟨b, o, _, cap, rfl, rfl, hroom, ?_, ?_⟩)⟩
    · simp only [List.size_toArray, List.length_append, List.length_take, List.length_drop, Array.length_toList]
      omega
    · rw [Nat.add_mul, ← hk]
      exact take_mid _ _ _ _ _ htk hxl (by rw [Array.length_toList]; omega)
/-- What lies behind an owned row is cleared. -/
theorem ef_clearQ (A R l : List Blk) {T e s bt : Nat} {z : Value} {x : Operand} {m k cap b o : Nat} {xs : List Value} [hT : Sl P T e] [hI : Inf P e z s bt]
    (hO : SlQ s e (.slice (some ⟨b, o, none⟩) k cap) k xs l) (hx : ev E x = some (.slice (slp (some ⟨b, o, none⟩) cap k s) m (cap - k))) (hL : L = A ++ (l ++ R)) (hm : 0 < m) (hfit : k + m ≤ cap) (hz1 : z.cells.all (·.oneCell') = true)
    (hK : ∀ l', SlQ s e (.slice (some ⟨b, o, none⟩) k cap) k xs l' → K (.tuple #[]) (A ++ (l' ++ R))) : EF P W n L E ⟨d, .call ⟨.builtin .clear, #[x], #[T]⟩, t, pos, after, g⟩ K := by
  rcases hO with ⟨h0, _⟩ | ⟨b', o', cs, cap', h0, rfl, hmc, hcs, htk⟩
  · cases h0
  simp only [Value.slice.injEq, Option.some.injEq, Addr.mk.injEq, true_and, and_true] at h0
  obtain ⟨⟨rfl, rfl⟩, rfl⟩ := h0
  have hsp : slp (some ⟨b, o, none⟩) cap k s = some ⟨b, o + k * s, none⟩ := by
    unfold slp; rw [if_neg (by omega), Option.map_some, add_zero']
  rw [hsp] at hx
  have e2 : (k + m) * s ≤ cap * s := Nat.mul_le_mul_right _ hfit
  rw [Nat.add_mul] at e2
  refine ef_clear A R (s := s) hx (by rw [hL]; rfl) hm (by omega) hz1 fun cs' hc1 hc2 => hK [_] (.inr ⟨b, o, cs', cap, rfl, rfl, hmc, by omega, ?_⟩)
  have e3 : (cs'.toList.drop o).take (k * s) = ((cs'.toList.take (o + k * s)).drop o) := by
    rw [List.drop_take, Nat.add_sub_cancel_left]
  have e4 : (cs.toList.drop o).take (k * s) = ((cs.toList.take (o + k * s)).drop o) := by
    rw [List.drop_take, Nat.add_sub_cancel_left]
  rw [e3, hc2, ← e4, htk]
/-- append, its answer opened. -/
theorem ef_appendQS (A R l : List Blk) {T e s bt : Nat} {z : Value} {x y : Operand} {v : Value} {m k c : Nat} {p : Option Addr} {xs news : List Value} [hT : Sl P T e] [hI : Inf P e z s bt]
    (hx : ev E x = some v) (hy : ev E y = some (.slice p k c)) (hO : SlQ s e v m xs l) (hL : L = A ++ (l ++ R)) (hsrc : Rs W L p news) (hk : news.length = k * s) (h1a : news.all (·.oneCell') = true) (hs : 0 < s)
    (hfit : (m + k) * bt ≤ 140737488355328) (hsm : m + k ≤ 9223372036854775807) (hK : ∀ s' k' l', SlQ s e (.slice s' (m + k) k') (m + k) (xs ++ news) l' → m + k ≤ k' → K (.slice s' (m + k) k') (A ++ (l' ++ R))) :
    EF P W n L E ⟨d, .call ⟨.builtin .append, #[x, y], #[T, T]⟩, t, pos, after, g⟩ K :=
  ef_appendQ A R l hx hy hO hL hsrc hk h1a hs hfit hsm fun v' l' h => by
    obtain ⟨s', k', rfl, h', hc⟩ := h.opn
    exact hK s' k' l' h' hc
end
end Go.Proofs.Ytoolgphkfnkajaa.X
/-
  Words of my own for walks: a range over a map; calls of function values of which the answer is known. No condition; generic over the program.
-/
namespace Go.Proofs.Ytoolgphkfnkajaa.X
open Go Go.RowKit
set_option linter.unusedVariables false
set_option linter.unusedSimpArgs false
theorem ef_callk {P : Program} {W : World} {n : Nat} {L : List Blk} {E : List (Nat × Value)} {d : Option Nat} {t : TypeId} {pos : String} {after : Array Edge} {g : Option (Nat × Bool)} {K : Value → List Blk → Prop} {f : Nat} {x : Operand} {args : List Operand} {ts : Array TypeId} {vs first cap : List Value} {r : Value} [hC : Cf P f] (hx : ev E x = some (.func (.func f) first.toArray cap.toArray)) (h : evs E args = some vs) (hf : XF P W f (first ++ vs ++ cap).toArray L (fun v L' => v = r ∧ L' = L)) (hk : K r L) :
    EF P W n L E ⟨d, .call ⟨.value x, args.toArray, ts⟩, t, pos, after, g⟩ K := ef_callv hx h (hf.mono fun v L' hv => by rw [hv.1, hv.2]; exact hk)

/-- A map that is ranged over, and where the range stands: left: the keys still to come; cur: the one at hand. -/
def MpR (k : IntKind) (m : Nat) (o it : Obj) (f : Int → Option Value) (sz : Nat) (left : List Int) (cur : Option Int) : Prop :=
  ∃ (l : List (Int × Value × Nat)) (c : Nat) (seen : Array Nat), o = .map (ments k l) c ∧ it = .mapIter (some m) c seen c ∧ (l.map (·.1)).Nodup ∧ l.length = sz ∧ (∀ n, mfind l n = f n) ∧ (l.map (·.2.2)).Nodup ∧ (∀ e, e ∈ l → e.2.2 < c) ∧
    (∀ e, e ∈ l → (seen.contains e.2.2 = false ↔ e.1 ∈ left)) ∧ (∀ n, n ∈ left → n ∈ l.map (·.1)) ∧ left.Nodup ∧ (∀ n, cur = some n → ∃ v b, (n, v, b) ∈ l ∧ seen.back? = some b)
theorem MpR.is {k : IntKind} {m : Nat} {o it : Obj} {f : Int → Option Value} {sz : Nat} {left : List Int} {cur : Option Int} (h : MpR k m o it f sz left cur) : MpIs k o f sz := by
  obtain ⟨l, c, seen, h1, _, h3, h4, h5, h6, h7, _⟩ := h
  exact ⟨l, c, h1, h3, h4, h5, h6, h7⟩
theorem mfind_mem : ∀ {l : List (Int × Value × Nat)} (hn : (l.map (·.1)).Nodup) {e : Int × Value × Nat}, e ∈ l → mfind l e.1 = some e.2.1
  | x :: r, hn, e, h => by
    rw [List.map_cons, List.nodup_cons] at hn
    rw [mfind_cons]
    rcases List.mem_cons.1 h with rfl | h
    · simp
    · have : ¬ e.1 = x.1 := fun e' => hn.1 (e' ▸ List.mem_map.2 ⟨e, h, rfl⟩)
      rw [if_neg this]; exact mfind_mem hn.2 h
theorem mfind_some : ∀ {l : List (Int × Value × Nat)} {n : Int} {v : Value}, mfind l n = some v → n ∈ l.map (·.1)
  | x :: r, n, v, h => by
    rw [mfind_cons] at h
    split at h
    · rename_i e; subst e; simp
    · exact List.mem_cons_of_mem _ (mfind_some h)
section
variable {P : Program} {W : World} {n : Nat} {L : List Blk} {E : List (Nat × Value)} {d : Option Nat} {t : TypeId} {pos : String} {after : Array Edge} {g : Option (Nat × Bool)} {K : Value → List Blk → Prop}
theorem ef_range {T kt et r : Nat} {x : Operand} {k : IntKind} {o : Obj} {f : Int → Option Value} {sz : Nat} [hT : Mp P T kt et] (hm : MpIs k o f sz) (hx : ev E x = some (.map (some r))) (hKn : Kn W L r o)
    (hK : ∀ b it left, MpR k r o it f sz left none → left.length = sz → (∀ n, n ∈ left ↔ (f n).isSome = true) → K (.pointer (some ⟨b, 0, none⟩)) ((b, it) :: L)) : EF P W n L E ⟨d, .range T x, t, pos, after, g⟩ K := by
  refine ⟨fun a w ha hw => ?_⟩
  obtain ⟨l, c, rfl, hnd, hsz, hf, hbn, hbc⟩ := hm
  have h1 := run_range_map (P := P) w T kt et r (ments k l) c hT.h (hKn.get hw)
  have hrun : (execOp a.eval ⟨d, .range T x, t, pos, after, g⟩).run P w = .ok (.value (.pointer (some ⟨w.heap.size, 0, none⟩))) (w.alloc (.mapIter (some r) c #[] c)) := by
    simp only [execOp, ha.eval hx, Sem.run_bind, h1, Result.andThen_ok]
    rfl
  rw [hrun]
  refine ⟨_, hw.alloc _, hK _ _ (l.map (·.1)) ⟨l, c, #[], rfl, rfl, hnd, hsz, hf, hbn, hbc, ?_, fun n hn => hn, hnd, fun n h => by cases h⟩ (by rw [List.length_map, hsz]) fun n => ?_⟩
  · intro e he
    simp only [List.mem_map]
    exact ⟨fun _ => ⟨e, he, rfl⟩, fun _ => by simp⟩
  · constructor
    · intro h
      obtain ⟨e, he, rfl⟩ := List.mem_map.1 h
      rw [← hf, mfind_mem hnd he]; rfl
    · intro h
      rw [← hf] at h
      obtain ⟨v, hv⟩ := Option.isSome_iff_exists.1 h
      exact mfind_some hv
theorem run_chooseMap (n : Nat) (hn : 0 < n) (w : World) : ∃ (j : Nat) (w1 : World), j < n ∧ (w1 = w ∨ w1 = { w with drawn := w.drawn + 1 }) ∧ (choose (Question.mapNext n)).run P w = .ok j w1 := by
  by_cases hf : n ≤ 1
  · exact ⟨0, w, by omega, .inl rfl, by simp [choose, Sem.run, Question.forced, hf]⟩
  · exact ⟨_, w.drew, Nat.mod_lt _ (by omega), .inr rfl, by
      simp only [choose, Sem.run, Question.forced, decide_eq_true_eq, hf, if_false, Question.cut]
      rfl⟩
theorem run_nextMap (w : World) (ty : TypeId) (b bm c : Nat) (seen : Array Nat) (es : Array MapEntry) (hi : w.heap[b]? = some (.mapIter (some bm) c seen c)) (hb : w.heap[bm]? = some (.map es c)) (hold : ∀ x ∈ es.toList, x.born < c) :
    ((leftOf es seen).size = 0 ∧ (Instr.next (.pointer (some ⟨b, 0, none⟩)) false ty).run P w = .ok (.tuple #[.bool false]) w) ∨
    ∃ e ∈ (leftOf es seen).toList, ∃ w1 : World, (w1 = w ∨ w1 = { w with drawn := w.drawn + 1 }) ∧ (Instr.next (.pointer (some ⟨b, 0, none⟩)) false ty).run P w = .ok (.tuple #[.bool true, e.key, e.val]) { w1 with heap := w1.heap.setIfInBounds b (.mapIter (some bm) c (seen.push e.born) c) } := by
  simp only [Instr.next, getObj, Sem.run_bind, Sem.run, hi, hb, Result.andThen, next_test_false seen es c c hold (Nat.le_refl _), Bool.false_eq_true, if_false]
  unfold leftOf
  have hmem : ∀ x ∈ (Array.filter (fun e => !seen.contains e.born) es).toList, x.born < c := fun x hx => hold x (by simp at hx ⊢; exact hx.1)
  generalize Array.filter (fun e => !seen.contains e.born) es = L at hmem ⊢
  have e1 : L.filter (fun x => decide (x.born < c)) = L := Array.filter_eq_self.2 (fun x hx => by simpa using hmem x (by simpa using hx))
  have e2 : L.filter (fun x => decide (x.born ≥ c)) = #[] := by
    rw [Array.filter_eq_empty_iff]
    intro x hx
    have := hmem x (by simpa using hx)
    simp
    omega
  simp only [e1, e2, Array.append_empty]
  by_cases h0 : L.size = 0
  · left
    have : L = #[] := Array.eq_empty_of_size_eq_zero h0
    subst this
    refine ⟨rfl, ?_⟩
    simp [choose, Sem.run, Question.forced]
  · right
    have hne : L.isEmpty = false := by simp [Array.isEmpty, h0]
    simp only [hne, Bool.false_eq_true, if_false, Array.empty_append, Array.size_map]
    obtain ⟨j, w1, hj, hal, hrun⟩ := run_chooseMap (P := P) L.size (by omega) w
    refine ⟨L[j], by simp, w1, hal, ?_⟩
    have hh : w1.heap = w.heap := by rcases hal with rfl | rfl <;> rfl
    have hset : ∀ o' : Obj, (setObj b o').run P w1 = .ok () { w1 with heap := w1.heap.setIfInBounds b o' } := fun o' => by
      simp only [setObj, Sem.run, hh, hi]
    simp only [hrun, Array.getElem?_map, Array.getElem?_eq_getElem hj, Option.map_some, Sem.run_bind, hset, Result.andThen]
    rfl
theorem ef_next (A R : List Blk) {b m : Nat} {x : Operand} {k : IntKind} {o it : Obj} {f : Int → Option Value} {sz : Nat} {left : List Int} {cur : Option Int} (hm : MpR k m o it f sz left cur) (hx : ev E x = some (.pointer (some ⟨b, 0, none⟩))) (hL : L = A ++ (b, it) :: R) (hKn : Kn W L m o)
    (h0 : left = [] → K (.tuple #[.bool false]) L) (h1 : ∀ n v it', n ∈ left → f n = some v → MpR k m o it' f sz (left.erase n) (some n) → K (.tuple #[.bool true, .int k n, v]) (A ++ (b, it') :: R)) : EF P W n L E ⟨d, .next x false, t, pos, after, g⟩ K := by
  refine ⟨fun a w ha hw => ?_⟩
  obtain ⟨l, c, seen, rfl, rfl, hnd, hsz, hf, hbn, hbc, hsn, hlk, hln, hcur⟩ := hm
  have hi : w.heap[b]? = some (.mapIter (some m) c seen c) := by subst hL; exact hw.mid
  have hb := hKn.get hw
  have hex : ∀ u w', (Instr.next (.pointer (some ⟨b, 0, none⟩)) false t).run P w = .ok u w' → (execOp a.eval ⟨d, .next x false, t, pos, after, g⟩).run P w = .ok (.value u) w' := fun u w' h => by
    simp only [execOp, ha.eval hx, Sem.run_bind, h, Result.andThen_ok]
    rfl
  rcases run_nextMap (P := P) w t b m c seen (ments k l) hi hb (fun y hy => by
    simp only [ments, List.mem_map] at hy
    obtain ⟨e, he, rfl⟩ := hy
    exact hbc e he) with ⟨hz, hr⟩ | ⟨e, he, w1, hw1, hr⟩
  · rw [hex _ _ hr]
    refine ⟨L, hw, h0 ?_⟩
    refine List.eq_nil_iff_forall_not_mem.2 fun q hq => ?_
    obtain ⟨e, he, rfl⟩ := List.mem_map.1 (hlk q hq)
    have h2 := (hsn e he).2 hq
    have h3 : (⟨.int k e.1, e.2.1, e.2.2⟩ : MapEntry) ∈ leftOf (ments k l) seen := by
      unfold leftOf
      refine Array.mem_filter.2 ⟨?_, by simp only [h2]; rfl⟩
      simp only [ments, List.mem_toArray, List.mem_map]
      exact ⟨e, he, rfl⟩
    have h4 : leftOf (ments k l) seen = #[] := Array.eq_empty_of_size_eq_zero hz
    rw [h4] at h3
    cases h3
    rename_i h3; cases h3
  · rw [hex _ _ hr]
    obtain ⟨he1, he2⟩ := mem_left he
    simp only [ments, List.mem_map] at he1
    obtain ⟨q, hq, rfl⟩ := he1
    dsimp only at he2 hr ⊢
    have hw1' : Hp W w1 L := by
      rcases hw1 with rfl | rfl
      · exact hw
      · exact hw.drew
    have hi1 : w1.heap[b]? = some (.mapIter (some m) c seen c) := by rcases hw1 with rfl | rfl <;> exact hi
    have hlt : b < w1.heap.size := (Array.getElem?_eq_some_iff.1 hi1).1
    have hlq := (hsn q hq).1 he2
    refine ⟨A ++ (b, .mapIter (some m) c (seen.push q.2.2) c) :: R, ?_, h1 q.1 q.2.1 _ hlq (by rw [← hf, mfind_mem hnd hq]) ⟨l, c, seen.push q.2.2, rfl, rfl, hnd, hsz, hf, hbn, hbc, ?_, fun z hz => hlk z (List.mem_of_mem_erase hz), hln.erase _, ?_⟩⟩
    · subst hL
      exact hw1'.turnAt rfl rfl rfl (Array.getElem?_setIfInBounds_self_of_lt hlt) (fun q hq => Array.getElem?_setIfInBounds_ne (Ne.symm hq))
    · intro e he
      rw [contains_push, Bool.or_eq_false_iff, hsn e he, hln.mem_erase_iff]
      constructor
      · rintro ⟨h2, h3⟩
        refine ⟨fun e1 => ?_, h2⟩
        have : e = q := by
          have h5 := mfind_mem hnd he
          obtain ⟨i, hi', hie⟩ := List.mem_iff_getElem.1 he
          obtain ⟨j, hj', hje⟩ := List.mem_iff_getElem.1 hq
          have hij : i = j := by
            have := (List.getElem_inj (xs := l.map (·.1)) (i := i) (j := j) (h₀ := by simpa using hi') (h₁ := by simpa using hj') hnd).1 (by simp only [List.getElem_map, hie, hje]; exact e1)
            exact this
          subst hij
          rw [← hie, ← hje]
        subst this
        simp at h3
      · rintro ⟨h2, h3⟩
        refine ⟨h3, ?_⟩
        cases hc : e.2.2 == q.2.2 with
        | false => rfl
        | true =>
          exfalso
          apply h2
          have e1 := eq_of_beq hc
          obtain ⟨i, hi', hie⟩ := List.mem_iff_getElem.1 he
          obtain ⟨j, hj', hje⟩ := List.mem_iff_getElem.1 hq
          have hij : i = j := (List.getElem_inj (xs := l.map (·.2.2)) (i := i) (j := j) (h₀ := by simpa using hi') (h₁ := by simpa using hj') hbn).1 (by simp only [List.getElem_map, hie, hje]; exact e1)
          subst hij
          rw [← hie, ← hje]
    · intro z hz
      cases hz
      exact ⟨q.2.1, q.2.2, hq, by simp⟩
theorem rd_entry {b m : Nat} {x : Operand} {k : IntKind} {o it : Obj} {f : Int → Option Value} {sz : Nat} {left : List Int} {z : Int} {v : Value} (hm : MpR k m o it f sz left (some z)) (hv : f z = some v) (hx : ev E x = some (.pointer (some ⟨b, 0, none⟩))) (hI : Kn W L b it) (hKn : Kn W L m o) :
    RD P W n L E ⟨d, .entry x, t, pos, after, g⟩ (.tuple #[.int k z, v]) := .mk fun a w ha hw => by
  obtain ⟨l, c, seen, rfl, rfl, hnd, hsz, hf, hbn, hbc, hsn, hlk, hln, hcur⟩ := hm
  have h1 := hI.get hw
  have h2 := hKn.get hw
  obtain ⟨v', b', hmem, hbk⟩ := hcur z rfl
  have hvv : v' = v := by
    have := mfind_mem hnd hmem
    rw [hf, hv] at this
    exact (Option.some.inj this).symm
  subst hvv
  have hfd : (ments k l).find? (fun e => e.born == b') = some ⟨.int k z, v', b'⟩ := by
    rw [← Array.find?_toList]
    have hb2 : ((ments k l).toList.map (·.born)).Nodup := by
      simp only [ments, List.map_map]
      exact hbn
    exact find_born ⟨.int k z, v', b'⟩ (ments k l).toList hb2 (by simp only [ments, List.mem_map]; exact ⟨_, hmem, rfl⟩)
  have hr : (Instr.entry (.pointer (some ⟨b, 0, none⟩))).run P w = .ok (.tuple #[.int k z, v']) w := by
    simp only [Instr.entry, getObj, Sem.run_bind, Sem.run, h1, h2, Result.andThen, hbk, bne_self_eq_false, Bool.false_eq_true, if_false, hfd]
    rfl
  simp only [execOp, ha.eval hx, Sem.run_bind, hr, Result.andThen_ok]
  rfl
/-- What is there already is laid anew, within a range. -/
theorem ef_mapUpdateR (A R : List Blk) {T kt et m : Nat} {x y u : Operand} {k : IntKind} {i : Int} {v : Value} {o it : Obj} {f : Int → Option Value} {sz : Nat} {left : List Int} {cur : Option Int} [hT : Mp P T kt et] [hk : Ik P kt k] (hm : MpR k m o it f sz left cur) (hi : (f i).isSome = true) (hx : ev E x = some (.map (some m))) (hy : ev E y = some (.int k i)) (hu : ev E u = some v)
    (hL : L = A ++ (m, o) :: R) (hK : ∀ o', MpR k m o' it (mupd f i (some v)) sz left cur → K undef (A ++ (m, o') :: R)) : EF P W n L E ⟨d, .mapUpdate T x y u, t, pos, after, g⟩ K := by
  refine ⟨fun a w ha hw => ?_⟩
  obtain ⟨l, c, seen, rfl, rfl, hnd, hsz, hf, hbn, hbc, hsn, hlk, hln, hcur⟩ := hm
  subst hL
  have h1 := hw.mid
  have h2 := run_checkKey (P := P) (kt := kt) (k := k) false i w
  have h3 := run_findKey (P := P) (kt := kt) (k := k) i l w
  have h5 : (getObj m).run P w = .ok (.map (ments k l) c) w := by simp [getObj, Sem.run, h1]
  have hset : ∀ o', (setObj m o').run P w = .ok () { w with heap := w.heap.setIfInBounds m o' } := fun o' => by simp [setObj, Sem.run, h1]
  have hlt : m < w.heap.size := (Array.getElem?_eq_some_iff.1 h1).1
  have hturn : ∀ o', Hp W { w with heap := w.heap.setIfInBounds m o' } (A ++ (m, o') :: R) := fun o' =>
    hw.turnAt rfl rfl rfl (Array.getElem?_setIfInBounds_self_of_lt hlt) (fun q hq => Array.getElem?_setIfInBounds_ne (Ne.symm hq))
  have hrun : (execOp a.eval ⟨d, .mapUpdate T x y u, t, pos, after, g⟩).run P w = ((Instr.mapUpdate T (.map (some m)) (.int k i) v).run P w).andThen fun _ w' => .ok .skip w' := by
    simp [execOp, ha.eval hx, ha.eval hy, ha.eval hu]
  rw [hrun]
  simp only [Instr.mapUpdate, Sem.run_bind, run_underlying hT.h, Result.andThen_ok, h5, h2, h3]
  have hfi := hf i
  rw [← midx_find] at hfi
  cases hmi : midx l i with
  | none => rw [hmi] at hfi; rw [← hfi] at hi; cases hi
  | some q =>
    obtain ⟨j, v0⟩ := q
    obtain ⟨b, hb⟩ := midx_some l i j v0 hmi
    have hes : (ments k l)[j]? = some ⟨.int k i, v0, b⟩ := by simp [ments, hb]
    have hkt : (Instr.keyThatStays (((ments k l)[j]?.map (·.key)).getD (.int k i)) (.int k i)).run P w = .ok (.int k i) w := by
      rw [hes]
      simp [Instr.keyThatStays, sameBits_int]
    simp only [Sem.run_bind, hkt, Result.andThen_ok, hset]
    have hk1 : (l.set j (i, v, b)).map (·.1) = l.map (·.1) := by
      apply List.ext_getElem?
      intro q
      simp only [List.getElem?_map, List.getElem?_set]
      by_cases hq : j = q
      · subst hq
        obtain ⟨hj, hv⟩ := List.getElem?_eq_some_iff.1 hb
        simp [hv, hj]
      · simp [hq]
    have hold : (i, v0, b) ∈ l := List.mem_of_getElem? hb
    refine ⟨_, hturn _, hK _ ⟨l.set j (i, v, b), c, seen, ?_, rfl, ?_, by rw [List.length_set, hsz], fun m => ?_, born_set hb hbn, fun e he => ?_, fun e he => ?_, fun z hz => by rw [hk1]; exact hlk z hz, hln, fun z hz => ?_⟩⟩
    · congr 1
      apply Array.ext'
      simp only [ments, Array.toList_modify]
      apply List.ext_getElem?
      intro q
      simp only [List.getElem?_modify, List.getElem?_map, List.getElem?_set]
      by_cases hq : j = q
      · subst hq
        obtain ⟨hj, hv⟩ := List.getElem?_eq_some_iff.1 hb
        simp [hv, hj]
      · simp [hq]
    · rw [hk1]; exact hnd
    · rw [mfind_set l i j v0 v b b hnd hb m, hf m]; rfl
    · rcases List.mem_or_eq_of_mem_set he with he | rfl
      · exact hbc e he
      · exact hbc (i, v0, b) hold
    · rcases List.mem_or_eq_of_mem_set he with he | rfl
      · exact hsn e he
      · exact hsn (i, v0, b) hold
    · obtain ⟨v', b', hmem, hbk⟩ := hcur z hz
      by_cases hzi : z = i
      · subst hzi
        have hbb : b' = b := by
          obtain ⟨i1, hi1, hie⟩ := List.mem_iff_getElem.1 hmem
          obtain ⟨j1, hj1, hje⟩ := List.mem_iff_getElem.1 hold
          have hij : i1 = j1 := (List.getElem_inj (xs := l.map (·.1)) (i := i1) (j := j1) (h₀ := by simpa using hi1) (h₁ := by simpa using hj1) hnd).1 (by simp only [List.getElem_map, hie, hje])
          subst hij
          rw [hie] at hje
          simpa using congrArg (·.2.2) hje
        subst hbb
        have hj := (List.getElem?_eq_some_iff.1 hb).1
        exact ⟨v, b', List.mem_of_getElem? (i := j) (by rw [List.getElem?_set]; simp [hj]), hbk⟩
      · refine ⟨v', b', ?_, hbk⟩
        obtain ⟨q, hq⟩ := List.mem_iff_getElem?.1 hmem
        have hqj : j ≠ q := fun e => by
          subst e
          rw [hb] at hq
          exact hzi (by simpa using (congrArg (·.1) (Option.some.inj hq)).symm)
        exact List.mem_of_getElem? (i := q) (by rw [List.getElem?_set, if_neg hqj]; exact hq)
end
end Go.Proofs.Ytoolgphkfnkajaa.X
/-
  Words of my own for walks, fifteenth part: walks within the fenced layer (wide, or in a round of a range over a function). No condition; generic over the program.
-/
namespace Go.Proofs.Ytoolgphkfnkajaa.X
open Go Go.RowKit
set_option linter.unusedVariables false
set_option linter.unusedSimpArgs false
/-- The wide fence, outside of a round or within one. -/
def Wd (F : Fence) : Prop := F = Fence.wide ∨ ∃ l, F = Fence.wide.inRound l
theorem Wd.fn {F : Fence} (h : Wd F) (f : FuncId) : F.fn f := by rcases h with rfl | ⟨l, rfl⟩ <;> trivial
theorem Wd.depth {F : Fence} (h : Wd F) : ¬ F.depth.isSome = true := by rcases h with rfl | ⟨l, rfl⟩ <;> simp [Fence.wide]
theorem Wd.calls {F : Fence} (h : Wd F) {n : Nat} {P : Program} {f : FuncId} {args : Array Value} {w : World} {R : Ending → World → Prop} (hc : Calls P f args w R) : CallsIn F n P f args w R := by
  rcases h with rfl | ⟨l, rfl⟩
  · exact callsIn_wide.2 hc
  · exact CallsIn.inRound l (callsIn_wide.2 hc)
theorem Wd.sem {F : Fence} (ρ : Operand → Value) (o : Oper) (h : ∀ c, o.op ≠ .defer c) : Oper.semAt F.round ρ o = execOp ρ o := by
  cases hr : F.round with
  | none => rfl
  | some l => exact Oper.semAt_some l ρ o h
theorem effUp.uponIn {F : Fence} (hF : Wd F) {m : Nat} {P : Program} {K : Value → World → Prop} {o : Oper} {a : Go.Act} {next : Go.Act → World → Prop} {Q : Exit → Go.Act → World → Prop} {r : Result Next}
    (h : effUp P K r) (hk : ∀ v w, K v w → next (a.put o.dst v) w) : o.uponIn F m P a next Q r := by
  unfold effUp at h
  split at h
  · exact hk _ _ h
  · exact hk _ _ h
  · exact ⟨fun hd => absurd hd hF.depth, hF.calls (Calls.mono h fun e w'' ⟨v, he, hv⟩ => by subst he; exact hk _ _ hv)⟩
  · exact h.elim
/-- The same frame, with calls that are put off. -/
def Act.ds (a : Go.Act) (ds : List Deferred) : Go.Act := { a with defers := ds }
theorem Act.ds_nil {n : Nat} {a : Go.Act} {E : List (Nat × Value)} (h : Env n a E) : Act.ds a [] = a := by
  have := h.defers
  cases a
  simp only at this
  subst this
  rfl
theorem Act.ds_put (a : Go.Act) (ds : List Deferred) (d : Option Nat) (v : Value) : (Act.ds a ds).put d v = Act.ds (a.put d v) ds := by cases d <;> rfl
theorem Act.ds_eval (a : Go.Act) (ds : List Deferred) : (Act.ds a ds).eval = a.eval := rfl
/-- What is asked, of the frame with its calls put off. -/
def Qd (ds : List Deferred) (Q : Exit → Go.Act → World → Prop) : Exit → Go.Act → World → Prop := fun e a w => Q e (Act.ds a ds) w
structure XI (F : Fence) (m : Nat) (ds : List Deferred) (P : Program) (W : World) (n : Nat) (ops : Array Oper) (Q : Exit → Go.Act → World → Prop) (rest : List Oper) (L : List Blk) (E : List (Nat × Value)) : Prop where mk ::
  run : ∀ a w, Env n a E → Hp W w L → wpListIn F m P ops Q rest (Act.ds a ds) w
structure XCI (F : Fence) (m : Nat) (ds : List Deferred) (P : Program) (W : World) (n : Nat) (c : Code) (Q : Exit → Go.Act → World → Prop) (L : List Blk) (E : List (Nat × Value)) : Prop where mk ::
  run : ∀ a w, Env n a E → Hp W w L → c.wpIn F m P Q (Act.ds a ds) w
section
variable {F : Fence} {m : Nat} {ds : List Deferred} {P : Program} {W : World} {n : Nat} {ops : Array Oper} {Q : Exit → Go.Act → World → Prop} {rest : List Oper} {L : List Blk} {E : List (Nat × Value)}
theorem xi_nil (h : XQ W n (Qd ds Q) .normal L E) : XI F m ds P W n ops Q [] L E := .mk fun a w ha hw => h.run a w ha hw
theorem xi_ef (hF : Wd F) {d : Option Nat} {op : Op} {t : TypeId} {pos : String} {after : Array Edge} (hnd : ∀ c, op ≠ .defer c)
    (hd : okd n d = true) (hr : EF P W n L E ⟨d, op, t, pos, after, none⟩ (fun v L' => XI F m ds P W n ops Q rest L' (pt E d v))) : XI F m ds P W n ops Q (⟨d, op, t, pos, after, none⟩ :: rest) L E := by
  refine ⟨fun a w ha hw => ?_⟩
  unfold wpListIn
  simp only [Region.wanted, if_true]
  refine ⟨fun f _ => hF.fn f, ?_⟩
  rw [Wd.sem (Act.ds a ds).eval ⟨d, op, t, pos, after, none⟩ hnd, Act.ds_eval]
  exact effUp.uponIn hF (hr.run a w ha hw) fun v w' ⟨L', h5, h7⟩ => by rw [Act.ds_put]; exact h7.run _ _ (ha.pt d v hd) h5
theorem xi_rd (hF : Wd F) {d : Option Nat} {op : Op} {t : TypeId} {pos : String} {after : Array Edge} {v : Value} (hnd : ∀ c, op ≠ .defer c)
    (hr : RD P W n L E ⟨d, op, t, pos, after, none⟩ v) (hd : okd n d = true) (h : XI F m ds P W n ops Q rest L (pt E d v)) : XI F m ds P W n ops Q (⟨d, op, t, pos, after, none⟩ :: rest) L E :=
  xi_ef hF hnd hd (ef_rd hr h)
/-- A call of a round: the round that was handed over. -/
theorem xi_yield (hF : Wd F) {d : Option Nat} {pos : String} {t : TypeId} {after : Array Edge} {c : Call} (hd : okd n d = true) {v : Value} {L' : List Blk}
    (hr : ∀ a w, Env n a E → Hp W w L → ∃ l f tmps assign body, (execOp a.eval ⟨d, .call c, t, pos, after, none⟩).run P w = .ok (.round l f tmps assign body) w ∧ RoundIn F (m - 1) P l f tmps assign body w fun e w' => e = .returned v ∧ Hp W w' L')
    (h : XI F m ds P W n ops Q rest L' (pt E d v)) : XI F m ds P W n ops Q (⟨d, .call c, t, pos, after, none⟩ :: rest) L E := by
  refine ⟨fun a w ha hw => ?_⟩
  obtain ⟨l, f, tmps, assign, body, h1, h2⟩ := hr a w ha hw
  unfold wpListIn
  simp only [Region.wanted, if_true]
  refine ⟨fun f _ => hF.fn f, ?_⟩
  rw [Wd.sem (Act.ds a ds).eval ⟨d, .call c, t, pos, after, none⟩ (fun _ h => by cases h), Act.ds_eval, h1]
  refine ⟨fun hd => absurd hd hF.depth, h2.mono ?_⟩
  rintro e w' ⟨rfl, hw'⟩
  show wpListIn F m P ops Q rest ((Act.ds a ds).put d v) w'
  rw [Act.ds_put]
  exact h.run _ _ (ha.pt d v hd) hw'
theorem xci_region {id : Nat} {l : List Oper} (h : XI F m ds P W n l.toArray Q l L E) : XCI F m ds P W n (.region id l.toArray false) Q L E := .mk fun a w ha hw => wpIn_region_lit (h.run a w ha hw)
theorem xci_wide {c : Code} (h : XC P W n c Q L E) : XCI Fence.wide m [] P W n c Q L E := .mk fun a w ha hw => by rw [Act.ds_nil ha]; exact wpIn_wide.2 (h.run a w ha hw)
theorem xc_of_wide {c : Code} (h : XCI Fence.wide m [] P W n c Q L E) : XC P W n c Q L E := .mk fun a w ha hw => by have := h.run a w ha hw; rw [Act.ds_nil ha] at this; exact wpIn_wide.1 this
theorem xci_seq {x y : Code} (h : XCI F m ds P W n x (Exit.then (fun a w => y.wpIn F m P Q a w) Q) L E) : XCI F m ds P W n (.seq x y) Q L E := .mk fun a w ha hw => wpIn_seq (h.run a w ha hw)
theorem xci_tail {y : Code} (h : XCI F m ds P W n y Q L E) : XQ W n (Qd ds (Exit.then (fun a w => y.wpIn F m P Q a w) Q)) .normal L E := .mk fun a w ha hw => h.run a w ha hw
theorem xci_block {id : Nat} {c : Code} (h : XCI F m ds P W n c (Exit.inBlock id Q) L E) : XCI F m ds P W n (.block id c) Q L E := .mk fun a w ha hw => wpIn_block (h.run a w ha hw)
theorem xci_skip (h : XQ W n (Qd ds Q) .normal L E) : XCI F m ds P W n .skip Q L E := .mk fun a w ha hw => wpIn_skip (h.run a w ha hw)
theorem xci_exit {id : Nat} (h : XQ W n (Qd ds Q) (.exit id) L E) : XCI F m ds P W n (.exit id) Q L E := .mk fun a w ha hw => wpIn_exit (h.run a w ha hw)
theorem xci_ret (h : XQ W n (Qd ds Q) .ret L E) : XCI F m ds P W n .ret Q L E := .mk fun a w ha hw => wpIn_ret (h.run a w ha hw)
theorem xci_cond {c : Operand} {x y : Code} {b : Bool} (hc : ev E c = some (.bool b)) (h1 : b = true → XCI F m ds P W n x Q L E) (h2 : b = false → XCI F m ds P W n y Q L E) : XCI F m ds P W n (.cond c x y) Q L E := .mk fun a w ha hw =>
  wpIn_cond_split (show (Act.ds a ds).eval c = .bool b from ha.eval hc) (fun h => (h1 h).run a w ha hw) (fun h => (h2 h).run a w ha hw)
/-- A loop, with what stands between two rounds. -/
theorem xci_loopI {c : Code} {ι : Type} (I : ι → Prop) (μ : ι → Nat) (Ls : ι → List Blk) (Es : ι → List (Nat × Value)) (i0 : ι) (h0 : I i0) (hL : L = Ls i0) (hE : ∀ i v, lk (Es i0) i = some v → lk E i = some v)
    (round : ∀ i, I i → XCI F m ds P W n c (Exit.then (fun a w => ∃ b, a = Act.ds b ds ∧ ∃ j, I j ∧ μ j < μ i ∧ Env n b (Es j) ∧ Hp W w (Ls j)) Q) (Ls i) (Es i)) : XCI F m ds P W n (.loop c) Q L E := by
  refine ⟨fun a w ha hw => ?_⟩
  subst hL
  refine wpIn_loop_ghost (fun k a' w' => ∃ b, a' = Act.ds b ds ∧ ∃ j, I j ∧ μ j = k ∧ Env n b (Es j) ∧ Hp W w' (Ls j)) (μ i0) ⟨a, rfl, i0, h0, rfl, ha.keep hE, hw⟩ ?_
  rintro k a' w' ⟨b, rfl, i, hi, rfl, h1, h2⟩
  refine wpIn_mono ((round i hi).run b w' h1 h2) ?_
  intro e a'' w'' q
  cases e with
  | normal => obtain ⟨b', q0, j, q1, q2, q3, q4⟩ := q; exact ⟨μ j, q2, b', q0, j, q1, rfl, q3, q4⟩
  | _ => exact q
theorem xqi_round {ι : Type} {I : ι → Prop} {μ : ι → Nat} {Ls : ι → List Blk} {Es : ι → List (Nat × Value)} {k : Nat} (j : ι) (hj : I j) (hm : μ j < k) (hL : L = Ls j) (hE : ∀ k v, lk (Es j) k = some v → lk E k = some v) :
    XQ W n (Qd ds (Exit.then (fun a w => ∃ b, a = Act.ds b ds ∧ ∃ j, I j ∧ μ j < k ∧ Env n b (Es j) ∧ Hp W w (Ls j)) Q)) .normal L E := .mk fun a w ha hw => ⟨a, rfl, j, hj, hm, ha.keep hE, hL ▸ hw⟩
end
end Go.Proofs.Ytoolgphkfnkajaa.X
/-
  Words of my own for walks, sixteenth part: a range over a function. No condition; generic over the program.
-/
namespace Go.Proofs.Ytoolgphkfnkajaa.X
open Go Go.RowKit
set_option linter.unusedVariables false
set_option linter.unusedSimpArgs false
theorem Hp.put {W w : World} {b : Nat} {o : Obj} {A R : List Blk} (h : Hp W w (A ++ (b, o) :: R)) (o' : Obj) : Hp W (w.putObj b o') (A ++ (b, o') :: R) :=
  h.turnAt rfl rfl rfl (World.putObj_heap_same (Array.getElem?_eq_some_iff.1 h.mid).1) (fun k hk => World.putObj_heap_other hk)
/-- The contract of an iterator: whatever stands between two rounds, each round is handed an element and its blocks; it goes on, or is stopped. -/
def XIt {α : Type} (P : Program) (W : World) (gf : FuncId) (lb : Array Value) (enc : α → Value) (bl : α → List Blk) (S Sp : List α → Prop) (N : Nat) (keep : List Blk) : Prop :=
  ∀ (l : Nat) (I Ix : List α → List Blk → Prop), (∀ pre L', I pre L' → ∀ z, z ∈ keep → z ∈ L') →
    (∀ pre x A L' w, I pre L' → pre.length < N → Hp W w (A ++ (bl x ++ L')) → YieldAt Fence.wide 0 P l #[enc x] w fun e w' =>
      (e = .returned (.bool true) ∧ ∃ L'', I (pre ++ [x]) L'' ∧ Hp W w' (A ++ L'')) ∨ (e = .returned (.bool false) ∧ ∃ L'', Ix (pre ++ [x]) L'' ∧ Hp W w' (A ++ L''))) →
    ∀ L w, I [] L → Hp W w L → CallsIn Fence.wide 0 P gf (#[.func (.yield l) #[] #[]] ++ lb) w fun e w' =>
      (∃ v, e = .returned v) ∧ ((∃ xs L', S xs ∧ I xs L' ∧ Hp W w' L') ∨ (∃ pre L', Sp pre ∧ Ix pre L' ∧ Hp W w' L'))
/-- How a round's body may be left. -/
def roundQ {α : Type} (W : World) (A : List Blk) (I : List α → List Blk → Prop) (Ix : Code → List α → List Blk → Prop) (pre : List α) : Exit → Go.Act → World → Prop
  | .normal, _, w => ∃ L', I pre L' ∧ Hp W w (A ++ L')
  | .ret, _, w => ∃ L', Ix .ret pre L' ∧ Hp W w (A ++ L')
  | .exit id, _, w => ∃ L', Ix (.exit id) pre L' ∧ Hp W w (A ++ L')
  | .goto t, _, w => ∃ L', Ix (.goto t) pre L' ∧ Hp W w (A ++ L')
  | _, _, _ => False
def mark (D : Nat) : List Deferred := [{ target := .collected D, args := #[] }]
section
variable {P : Program} {W : World} {n : Nat} {Q : Exit → Go.Act → World → Prop} {L : List Blk} {E : List (Nat × Value)}
theorem xci_range {α : Type} {g : Operand} {t : Tmp} {assign body : Code} {gf : FuncId} {lb : Array Value} {enc : α → Value} {bl : α → List Blk} {S Sp : List α → Prop} {N : Nat} {keep : List Blk}
    (hit : XIt P W gf lb enc bl S Sp N keep) (hg : ev E g = some (.func (.func gf) #[] lb)) (eg : ∀ args w, (callFunc gf args).run P w = .ok (.enter gf args) w) (ht : t < n)
    (I : List α → List Blk → Prop) (Ix : Code → List α → List Blk → Prop) (hk : ∀ pre L', I pre L' → ∀ z, z ∈ keep → z ∈ L') (h0 : I [] L)
    {ι : Type} (Ls : List α → α → List Blk → ι → List Blk) (Es : List α → α → List Blk → ι → List (Nat × Value))
    (hassign : ∀ l pre x A L', I pre L' → pre.length < N → XCI (Fence.wide.inRound l) 0 [] P W n assign (Exit.then (fun a w => ∃ r, Env n a (Es pre x L' r) ∧ Hp W w (A ++ Ls pre x L' r)) (fun _ _ _ => False)) (A ++ (bl x ++ L')) ((t, enc x) :: E))
    (hbody : ∀ l pre x A L' r, I pre L' → pre.length < N → XCI (Fence.wide.inRound l) 0 [] P W n body (roundQ W A I Ix (pre ++ [x])) (A ++ Ls pre x L' r) (Es pre x L' r))
    (hdone : ∀ D xs L', S xs → I xs L' → XQ W n (Qd (mark D) Q) .normal ((D, .deferred (some [])) :: L') E)
    (hstop : ∀ D c pre L', Sp pre → Ix c pre L' → XCI Fence.wide 0 (mark D) P W n c Q ((D, .deferred (some [])) :: L') E) :
    XCI Fence.wide 0 [] P W n (.rangeFunc g #[t] assign body) Q L E := by
  refine ⟨fun a w ha hw => ?_⟩
  rw [Act.ds_nil ha]
  refine wpIn_rangeFunc ?_
  intro fn hfn
  obtain ⟨rec, hrec⟩ : ∃ rec : LoopState → Option Code → Loop, rec = fun st pe => { state := st, pending := pe, fn, tmps := a.tmps, params := #[t], assign, body, defers := w.heap.size } := ⟨_, rfl⟩
  have hw1 : Hp W ((w.alloc (.deferred (some []))).alloc (.loop (rec .ready none))) ((w.heap.size + 1, .loop (rec .ready none)) :: (w.heap.size, .deferred (some [])) :: L) := by
    have h1 := hw.alloc (.deferred (some []))
    have h2 := h1.alloc (.loop (rec .ready none))
    simp only [Array.size_push] at h2
    exact h2
  obtain ⟨w0, hw0⟩ : ∃ w0, (w.alloc (.deferred (some []))).alloc (.loop (rec .ready none)) = w0 := ⟨_, rfl⟩
  refine ⟨w.heap.size + 1, mark w.heap.size, w0, { target := .fn (.func gf) lb, args := #[.func (.yield (w.heap.size + 1)) #[] #[]] }, w0, gf, #[.func (.yield (w.heap.size + 1)) #[] #[]] ++ lb, w0, ?_, ?_, fun f' _ => trivial, ?_, fun h => absurd h (by simp [Fence.wide]), ?_⟩
  · rw [← hw0, hrec]; exact run_enterLoop_outer _ _ _ _ _
  · have hga := ha.eval hg
    simp only [resolve, hga]
    simp [go_sem]
  · simp [invoke, go_sem, eg]
  · refine (hit (w.heap.size + 1)
      (fun pre L' => ∃ L0, I pre L0 ∧ L' = (w.heap.size + 1, .loop (rec .ready none)) :: (w.heap.size, .deferred (some [])) :: L0)
      (fun pre L' => ∃ c L0, Ix c pre L0 ∧ L' = (w.heap.size + 1, .loop (rec .done (some c))) :: (w.heap.size, .deferred (some [])) :: L0) ?_ ?_ _ _ ⟨L, h0, rfl⟩ (hw0 ▸ hw1)).mono ?_
    · rintro pre L' ⟨L0, hI, rfl⟩ z hz
      exact List.mem_cons_of_mem _ (List.mem_cons_of_mem _ (hk pre L0 hI z hz))
    · rintro pre x A L' w1 ⟨L0, hI, rfl⟩ hlen hw2
      have hp : (A ++ (bl x ++ (w.heap.size + 1, Obj.loop (rec .ready none)) :: (w.heap.size, Obj.deferred (some [])) :: L0)).Perm ([] ++ (w.heap.size + 1, Obj.loop (rec .ready none)) :: ((A ++ [(w.heap.size, Obj.deferred (some []))]) ++ (bl x ++ L0))) := by
        classical
        rw [List.perm_iff_count]; intro z; simp only [List.count_cons, List.count_append, List.count_nil, List.nil_append, List.append_nil]; omega
      have hw3 := hw2.perm hp
      have hy := run_yield (P := P) (args := #[enc x]) hw3.mid (by rw [hrec]; rfl)
      rw [hrec] at hy
      refine ⟨fn, a.tmps.setIfInBounds t (enc x), assign, body, by simpa using hy, roundIn_of_wpIn hfn ?_⟩
      have hae : Env n { tmps := a.tmps.setIfInBounds t (enc x), defers := [] } ((t, enc x) :: E) := by
        have := ha.pt (some t) (enc x) (by simpa [okd, Nat.blt_eq] using ht)
        have h2 : a.put (some t) (enc x) = { tmps := a.tmps.setIfInBounds t (enc x), defers := [] } := by rw [← ha.defers]; rfl
        rw [h2] at this
        exact this
      have has := (hassign (w.heap.size + 1) pre x ((w.heap.size + 1, Obj.loop (rec .ready none)) :: (A ++ [(w.heap.size, Obj.deferred (some []))])) L0 hI hlen).run _ w1 hae (by simpa using hw3)
      rw [Act.ds_nil hae] at has
      refine wpIn_mono has ?_
      rintro e a1 w4 q
      cases e with
      | normal =>
        obtain ⟨r, hEr, hLr⟩ := q
        have hLr' : Hp W w4 ([] ++ (w.heap.size + 1, Obj.loop (rec .ready none)) :: ((A ++ [(w.heap.size, Obj.deferred (some []))]) ++ Ls pre x L0 r)) := by simpa using hLr
        refine ⟨_, run_beginRound hLr'.mid (by rw [hrec]), ?_⟩
        have hLb := hLr'.put (.loop { rec .ready none with state := .busy })
        have hb := (hbody (w.heap.size + 1) pre x ((w.heap.size + 1, Obj.loop { rec .ready none with state := .busy }) :: (A ++ [(w.heap.size, Obj.deferred (some []))])) L0 r hI hlen).run _ _ hEr (by simpa using hLb)
        rw [Act.ds_nil hEr] at hb
        refine wpIn_mono hb ?_
        rintro e a2 w5 q
        have fin : ∀ (jump : Option Code) (L'' : List Blk), Hp W w5 ((w.heap.size + 1, Obj.loop { rec .ready none with state := .busy }) :: (A ++ [(w.heap.size, Obj.deferred (some []))]) ++ L'') →
            (Instr.endRound (w.heap.size + 1) jump).run P w5 = .ok (.bool jump.isNone) (w5.putObj (w.heap.size + 1) (.loop (rec (if jump.isNone then .ready else .done) jump))) ∧ Hp W (w5.putObj (w.heap.size + 1) (.loop (rec (if jump.isNone then .ready else .done) jump))) (A ++ ((w.heap.size + 1, .loop (rec (if jump.isNone then .ready else .done) jump)) :: (w.heap.size, .deferred (some [])) :: L'')) := fun jump L'' h => by
          have h' : Hp W w5 ([] ++ (w.heap.size + 1, Obj.loop { rec .ready none with state := .busy }) :: ((A ++ [(w.heap.size, Obj.deferred (some []))]) ++ L'')) := by simpa using h
          have h1 := run_endRound (P := P) jump h'.mid
          have h2 := h'.put (.loop (rec (if jump.isNone then .ready else .done) jump))
          refine ⟨by rw [hrec] at h1 ⊢; exact h1, h2.perm ?_⟩
          classical
          rw [List.perm_iff_count]; intro z; simp only [List.count_cons, List.count_append, List.count_nil, List.nil_append, List.append_nil]; omega
        cases e with
        | normal =>
          obtain ⟨L'', hI', hH⟩ := q
          obtain ⟨h1, h2⟩ := fin none L'' hH
          exact ⟨_, _, h1, .inl ⟨rfl, _, ⟨L'', hI', rfl⟩, h2⟩⟩
        | ret =>
          obtain ⟨L'', hI', hH⟩ := q
          obtain ⟨h1, h2⟩ := fin (some .ret) L'' hH
          exact ⟨_, _, h1, .inr ⟨rfl, _, ⟨.ret, L'', hI', rfl⟩, h2⟩⟩
        | exit id =>
          obtain ⟨L'', hI', hH⟩ := q
          obtain ⟨h1, h2⟩ := fin (some (.exit id)) L'' hH
          exact ⟨_, _, h1, .inr ⟨rfl, _, ⟨.exit id, L'', hI', rfl⟩, h2⟩⟩
        | goto id =>
          obtain ⟨L'', hI', hH⟩ := q
          obtain ⟨h1, h2⟩ := fin (some (.goto id)) L'' hH
          exact ⟨_, _, h1, .inr ⟨rfl, _, ⟨.goto id, L'', hI', rfl⟩, h2⟩⟩
        | panic ch => exact q.elim
        | outgrown => exact q.elim
      | _ => exact q.elim
    · have hact : ({ tmps := a.tmps, defers := mark w.heap.size ++ a.defers } : Go.Act) = Act.ds a (mark w.heap.size) := by rw [ha.defers, List.append_nil]; rfl
      rintro e w2 ⟨⟨v, rfl⟩, (⟨xs, L', hS, ⟨L0, hI, rfl⟩, hH⟩ | ⟨pre, L', hSp, ⟨c, L0, hI, rfl⟩, hH⟩)⟩
      · have hH' : Hp W w2 ([] ++ (w.heap.size + 1, Obj.loop (rec .ready none)) :: (w.heap.size, Obj.deferred (some [])) :: L0) := hH
        refine ⟨none, _, by have := run_endLoop (P := P) hH'.mid (by rw [hrec]; simp); rw [hrec] at this; exact this, ?_⟩
        have h2 := (hH'.put (.loop { rec .ready none with state := .exhausted })).sub (List.sublist_cons_self _ _)
        have := (hdone w.heap.size xs L0 hS hI).run a _ ha h2
        rw [hrec] at this
        exact hact ▸ this
      · have hH' : Hp W w2 ([] ++ (w.heap.size + 1, Obj.loop (rec .done (some c))) :: (w.heap.size, Obj.deferred (some [])) :: L0) := hH
        refine ⟨some c, _, by have := run_endLoop (P := P) hH'.mid (by rw [hrec]; simp); rw [hrec] at this; exact this, ?_⟩
        have h2 := (hH'.put (.loop { rec .done (some c) with state := .exhausted })).sub (List.sublist_cons_self _ _)
        have := (hstop w.heap.size c pre L0 hSp hI).run a _ ha h2
        rw [hrec] at this
        exact hact ▸ this
end
end Go.Proofs.Ytoolgphkfnkajaa.X
namespace Go.Proofs.Ytoolgphkfnkajaa.X
open Go Go.RowKit
section
variable {P : Program} {W : World} {n : Nat} {L : List Blk} {E : List (Nat × Value)} {K : Value → List Blk → Prop}
/-- A function whose body holds a range over a function. -/
theorem xf_enterM {fn : Func} {c : Code} {f : FuncId} {args : List Value} {n : Nat} (hf : P.funcs[f]? = some fn) (hb : fn.body = some c) (hn : fn.ntmps = n) (hl : Nat.ble args.length n = true)
    (h : XCI Fence.wide 0 [] P W n c (bodyPostM Fence.wide 0 P fn (XP W K)) L (zipArgs 0 args)) : XF P W f args.toArray L K := by
  refine ⟨fun w hw => ?_⟩
  have he : Env n { tmps := args.toArray ++ Array.replicate (fn.ntmps - args.toArray.size) undef, defers := [] } (zipArgs 0 args) := by
    refine ⟨rfl, ?_, fun i v hv => ?_⟩
    · have : args.length ≤ n := by simpa [Nat.ble_eq] using hl
      simp [hn]; omega
    · obtain ⟨_, h2⟩ := lk_zipArgs args 0 i v hv
      have h3 := (List.getElem?_eq_some_iff.1 h2).1
      simp only [Nat.sub_zero] at h2 h3
      rw [Array.getElem?_append_left (by simpa using h3)]
      simpa using h2
  have h1 := h.run _ w he hw
  rw [Act.ds_nil he] at h1
  exact (callsIn_wide (n := 0)).1 (callsIn_of_wp_marks hf hb trivial h1)
/-- The end of such a function: behind the loop. -/
theorem xqm_ret {fn : Func} {D : Nat} {e : Exit} (he : e = .ret ∨ e = .normal) (h : XQ W n (bodyPost P fn (XP W K)) e L E) : XQ W n (Qd (mark D) (bodyPostM Fence.wide 0 P fn (XP W K))) e ((D, .deferred (some [])) :: L) E := by
  refine ⟨fun a w ha hw => ?_⟩
  have hw' : Hp W w ([] ++ (D, Obj.deferred (some [])) :: L) := hw
  have h2 := (hw'.put (.deferred none)).sub (List.sublist_cons_self _ _)
  have h3 := h.run a _ ha h2
  have ht := run_takeDeferred (P := P) hw'.mid
  rcases he with rfl | rfl
  · exact ⟨by simp, .inl ⟨D, _, rfl, ht, h3.2⟩⟩
  · exact ⟨by simp, .inl ⟨D, _, rfl, ht, h3.2⟩⟩
/-- The end of such a function ahead of the loop. -/
theorem xq0_ret {fn : Func} {e : Exit} (he : e = .ret ∨ e = .normal) (h : XQ W n (bodyPost P fn (XP W K)) e L E) : XQ W n (Qd [] (bodyPostM Fence.wide 0 P fn (XP W K))) e L E := by
  refine ⟨fun a w ha hw => ?_⟩
  have h3 := h.run a _ ha hw
  rcases he with rfl | rfl
  · exact h3.2
  · exact h3.2
end
end Go.Proofs.Ytoolgphkfnkajaa.X
namespace Go.Proofs.Ytoolgphkfnkajaa.X
open Go Go.RowKit
section
variable {F : Fence} {ds : List Deferred} {P : Program} {W : World} {n : Nat} {ops : Array Oper} {Q : Exit → Go.Act → World → Prop} {rest : List Oper} {L : List Blk} {E : List (Nat × Value)}
/-- The iterator calls yield. -/
theorem xi_yieldAt {d : Option Nat} {t : TypeId} {pos : String} {after : Array Edge} {x : Operand} {args : List Operand} {ts : Array TypeId} {vs : List Value} {l : Nat} (I1 I2 : List Blk → Prop) (hd : okd n d = true)
    (hx : ev E x = some (.func (.yield l) #[] #[])) (h : evs E args = some vs)
    (hy : ∀ w, Hp W w L → YieldAt Fence.wide 0 P l vs.toArray w fun e w' => (e = .returned (.bool true) ∧ ∃ L', I1 L' ∧ Hp W w' L') ∨ (e = .returned (.bool false) ∧ ∃ L', I2 L' ∧ Hp W w' L'))
    (h1 : ∀ L', I1 L' → XI Fence.wide 0 ds P W n ops Q rest L' (pt E d (.bool true))) (h2 : ∀ L', I2 L' → XI Fence.wide 0 ds P W n ops Q rest L' (pt E d (.bool false))) :
    XI Fence.wide 0 ds P W n ops Q (⟨d, .call ⟨.value x, args.toArray, ts⟩, t, pos, after, none⟩ :: rest) L E := by
  refine ⟨fun a w ha hw => ?_⟩
  obtain ⟨fn, tmps, assign, body, hrun, hR⟩ := hy w hw
  have hex : (execOp a.eval ⟨d, .call ⟨.value x, args.toArray, ts⟩, t, pos, after, none⟩).run P w = .ok (.round l fn tmps assign body) w := by
    have he := ha.evals h
    have hxa := ha.eval hx
    simp only [execOp, resolve, hxa]
    simp [Deferred.ofValue, invoke, he]
    simpa using hrun
  unfold wpListIn
  simp only [Region.wanted, if_true]
  refine ⟨fun f _ => trivial, ?_⟩
  rw [Wd.sem (F := Fence.wide) (Act.ds a ds).eval ⟨d, .call ⟨.value x, args.toArray, ts⟩, t, pos, after, none⟩ (fun _ h => by cases h), Act.ds_eval, hex]
  refine ⟨fun hd => absurd hd (by simp [Fence.wide]), hR.mono ?_⟩
  rintro e w' (⟨rfl, L', hI, hw'⟩ | ⟨rfl, L', hI, hw'⟩)
  · show wpListIn Fence.wide 0 P ops Q rest ((Act.ds a ds).put d (.bool true)) w'
    rw [Act.ds_put]
    exact (h1 L' hI).run _ _ (ha.pt d _ hd) hw'
  · show wpListIn Fence.wide 0 P ops Q rest ((Act.ds a ds).put d (.bool false)) w'
    rw [Act.ds_put]
    exact (h2 L' hI).run _ _ (ha.pt d _ hd) hw'
end
end Go.Proofs.Ytoolgphkfnkajaa.X
/-
  Words of my own for walks, seventeenth part: a region that draws, in a round. No condition; generic over the program.
-/
namespace Go.Proofs.Ytoolgphkfnkajaa.X
open Go Go.RowKit
set_option linter.unusedVariables false
set_option linter.unusedSimpArgs false
/-- Asked at the plain end alone. -/
def QN (Q : Exit → Go.Act → World → Prop) : Exit → Go.Act → World → Prop := fun e a w => e = .normal ∧ Q .normal a w
theorem rowsIn_inRound {P : Program} {row : String} {args : Array Value} {w : World} {R : Value → World → Prop} {l n : Nat} (h : Rows P row args w R) : RowsIn (Fence.wide.inRound l) n P row args w R := fun c cs _ =>
  let ⟨v, w', r, s⟩ := h c cs
  ⟨v, w', r, by rw [fenced_inRound]; exact stepsIn_wide.2 s⟩
theorem upon_inRound {P : Program} {o : Oper} {a : Go.Act} {w : World} {l : Nat} {Q : Exit → Go.Act → World → Prop} {K K' : Go.Act → World → Prop} (hnd : ∀ c, o.op ≠ .defer c) (hK : ∀ a w, K a w → K' a w)
    (h : o.wp P a w K (NoPanic (QN Q))) : o.wpIn (Fence.wide.inRound l) 0 P a w K' Q := by
  refine ⟨fun f _ => trivial, ?_⟩
  rw [Oper.semAt_eq _ _ _ hnd]
  unfold Oper.wp at h
  generalize (execOp a.eval o).run P w = r at *
  have hd : ¬ (Fence.wide.inRound l).depth.isSome = true := by simp [Fence.wide]
  cases r with
  | ok x w' =>
    cases x with
    | value v => exact hK _ _ h
    | skip => exact hK _ _ h
    | defer d => exact hK _ _ h
    | enter f args =>
      refine ⟨fun h => absurd h hd, CallsIn.inRound l (callsIn_wide.2 (Calls.mono h fun e w'' he => ?_))⟩
      cases e with
      | returned v => exact hK _ _ he
      | panicked ch => exact (show False from he).elim
      | outgrown => obtain ⟨a1, w1, h1⟩ := he; exact absurd h1.1 (by simp)
    | row row args => exact ⟨fun h => absurd h hd, rowsIn_inRound (Rows.mono h fun v w' hv => hK _ _ hv)⟩
    | _ => exact (show False from h).elim
  | halt x w' =>
    cases x with
    | panic v => exact (show False from h).elim
    | _ => exact (show False from h).elim
theorem anyIn_of_any {P : Program} {ops : Array Oper} {l : Nat} {Q : Exit → Go.Act → World → Prop} (hnd : ∀ (i : Nat) (o : Oper), ops[i]? = some o → ∀ c, o.op ≠ .defer c) : ∀ (fuel : Nat) (listed : Array Bool) (a : Go.Act) (w : World), wpAny P .any ops (NoPanic (QN Q)) fuel listed a w → wpAnyIn (Fence.wide.inRound l) 0 P .any ops Q fuel listed a w
  | 0, listed, a, w, h => ⟨h.1, (show QN Q .normal a w from h.2).2⟩
  | fuel + 1, listed, a, w, h => by
    refine ⟨fun hr => (show QN Q .normal a w from h.1 hr).2, fun i hi => ?_⟩
    have h1 := h.2 i hi
    have ih := anyIn_of_any (P := P) (l := l) (Q := Q) hnd fuel (listed.setIfInBounds i true)
    unfold wpOp at h1
    unfold wpOpIn
    cases ho : ops[i]? with
    | none => rw [ho] at h1; exact ih _ _ h1
    | some o =>
      rw [ho] at h1
      simp only at h1 ⊢
      by_cases hw : Region.wanted o (yielded ops a.tmps) = true
      · rw [if_pos hw] at h1 ⊢
        rcases h1 with h1 | ⟨_, a1, w1, h2⟩
        · exact upon_inRound (hnd i o ho) ih h1
        · exact absurd h2.1 (by simp)
      · rw [if_neg hw] at h1 ⊢
        exact ⟨fun f _ => trivial, ih _ _ h1⟩
def noDefer (ops : List Oper) : Bool := ops.all fun o => match o.op with | .defer _ => false | _ => true
section
variable {P : Program} {W : World} {n : Nat} {Q : Exit → Go.Act → World → Prop} {L : List Blk} {E : List (Nat × Value)} {ops : Array Oper}
theorem xci_drawM (pm tm : List Nat) (M : List Blk) {l id : Nat} [hm : Mx P] (h0 : noDefer ops.toList = true) (h1 : pmOf ops = pm) (h2 : tmOf ops = tm) (h3 : Region.noSelect ops = true) (h : XM P W n ops (QN Q) M pm tm ops.size 0 L E) : XCI (Fence.wide.inRound l) 0 [] P W n (.region id ops true) Q L E := .mk fun a w ha hw => by
  rw [Act.ds_nil ha]
  refine wpIn_region_any hm.h (anyIn_of_any ?_ _ _ _ _ (wpAny_of_held _ _ _ _ (h.run h1 h2 h3 _ (Rep.start _) a _ ha hw.drew)))
  intro i o ho c hc
  have hmem : o ∈ ops.toList := List.mem_of_getElem? (by rw [Array.getElem?_toList]; exact ho)
  have := List.all_eq_true.1 h0 o hmem
  rw [hc] at this
  cases this
theorem xci_drawML (pm tm : List Nat) {l id : Nat} [hm : Mx P] (h0 : noDefer ops.toList = true) (h1 : pmOf ops = pm) (h2 : tmOf ops = tm) (h3 : Region.noSelect ops = true) (h : XM P W n ops (QN Q) L pm tm ops.size 0 L E) : XCI (Fence.wide.inRound l) 0 [] P W n (.region id ops true) Q L E := xci_drawM pm tm L h0 h1 h2 h3 h
theorem xq_qn (h : XQ W n Q .normal L E) : XQ W n (QN Q) .normal L E := .mk fun a w ha hw => ⟨rfl, h.run a w ha hw⟩
theorem xci_perm {F : Fence} {m : Nat} {ds : List Deferred} {c : Code} {L' : List Blk} (hp : L.Perm L') (h : XCI F m ds P W n c Q L' E) : XCI F m ds P W n c Q L E := .mk fun a w ha hw => h.run a w ha (hw.perm hp)
theorem xi_perm {F : Fence} {m : Nat} {ds : List Deferred} {rest : List Oper} {L' : List Blk} (hp : L.Perm L') (h : XI F m ds P W n ops Q rest L' E) : XI F m ds P W n ops Q rest L E := .mk fun a w ha hw => h.run a w ha (hw.perm hp)
end
end Go.Proofs.Ytoolgphkfnkajaa.X
