/-
  Words of my own for walks, fourteenth part: texts and rows of bytes. No condition; generic over the program.
-/
import Derived.Test.YtoolgphkfnkajaaX13
import Derived.Laws.IdiomStrings
import Derived.Laws.BytesArg
import Derived.Laws.StructEq
import Derived.Laws.Strings
namespace Go.Proofs.Ytoolgphkfnkajaa.X
open Go Go.RowKit
set_option linter.unusedVariables false
set_option linter.unusedSimpArgs false
/-- All rows at once. -/
theorem Rs.rows {α : Type} {W : World} {L : List Blk} {p : Option Addr} {enc : α → List Value} {s : Nat} {l : List α} (h : Rs W L p (l.flatMap enc)) (hs : ∀ x, (enc x).length = s) (h0 : 0 < s) (hne : 0 < l.length) :
    ∃ b o, p = some ⟨b, o, none⟩ ∧ ∀ k (hk : k < l.length) j u, (enc l[k])[j]? = some u → Cl W L b (o + k * s + j) u := by
  obtain ⟨b, o, rfl, _⟩ := h.row hs h0 (k := 0) hne
  refine ⟨b, o, rfl, fun k hk j u hj => ?_⟩
  obtain ⟨b', o', hp, hc⟩ := h.row hs h0 hk
  simp only [Option.some.injEq, Addr.mk.injEq, and_true] at hp
  obtain ⟨rfl, rfl⟩ := hp
  exact hc j u hj
section
variable {P : Program} {W : World} {n : Nat} {L : List Blk} {E : List (Nat × Value)} {ops : Array Oper} {Q : Exit → Act → World → Prop} {rest : List Oper}
/-- Blocks behind the first ones change places. -/
theorem xo_permT (A : List Blk) {R R' : List Blk} (hp : R.Perm R') (h : XO P W n ops Q rest (A ++ R') E) : XO P W n ops Q rest (A ++ R) E := xo_perm (hp.append_left A) h
theorem xc_permT (A : List Blk) {R R' : List Blk} {c : Code} (hp : R.Perm R') (h : XC P W n c Q (A ++ R') E) : XC P W n c Q (A ++ R) E := xc_perm (hp.append_left A) h
theorem xq_permT (A : List Blk) {R R' : List Blk} {e : Exit} (hp : R.Perm R') (h : XQ W n Q e (A ++ R') E) : XQ W n Q e (A ++ R) E := xq_perm (hp.append_left A) h
theorem xq_sb {M : List Blk} {e : Exit} (hs : Sb M L) (h : XQ W n Q e M E) : XQ W n Q e L E := .mk fun a w ha hw => h.run a w ha (hs.hp hw)
theorem xo_sb {M : List Blk} (hs : Sb M L) (h : XO P W n ops Q rest M E) : XO P W n ops Q rest L E := .mk fun a w ha hw => h.run a w ha (hs.hp hw)
theorem xc_sb {M : List Blk} {c : Code} (hs : Sb M L) (h : XC P W n c Q M E) : XC P W n c Q L E := .mk fun a w ha hw => h.run a w ha (hs.hp hw)
/-- The first blocks, unnamed for a while. -/
theorem xo_gen1 {b1 : Blk} (h : ∀ p1, p1 = b1 → XO P W n ops Q rest (p1 :: L) E) : XO P W n ops Q rest (b1 :: L) E := h _ rfl
theorem xo_gen2 {b1 b2 : Blk} (h : ∀ p1, p1 = b1 → ∀ p2, p2 = b2 → XO P W n ops Q rest (p1 :: p2 :: L) E) : XO P W n ops Q rest (b1 :: b2 :: L) E := h _ rfl _ rfl
theorem xo_gen3 {b1 b2 b3 : Blk} (h : ∀ p1, p1 = b1 → ∀ p2, p2 = b2 → ∀ p3, p3 = b3 → XO P W n ops Q rest (p1 :: p2 :: p3 :: L) E) : XO P W n ops Q rest (b1 :: b2 :: b3 :: L) E := h _ rfl _ rfl _ rfl
end
section
variable {P : Program} {W : World} {n : Nat} {L : List Blk} {E : List (Nat × Value)} {d : Option Nat} {t : TypeId} {pos : String} {after : Array Edge} {g : Option (Nat × Bool)} {K : Value → List Blk → Prop}
/-- An append, its value spelt as a slice. -/
theorem ef_appendS (A R l : List Blk) {T e s bt : Nat} {z : Value} {x y : Operand} {v : Value} {m k c : Nat} {p : Option Addr} {xs news : List Value} [hT : Sl P T e] [hI : Inf P e z s bt]
    (hx : ev E x = some v) (hy : ev E y = some (.slice p k c)) (hO : SlO s e v m xs l) (hL : L = A ++ (l ++ R)) (hsrc : Rs W L p news) (hk : news.length = k * s) (h1a : news.all (·.oneCell') = true) (hs : 0 < s)
    (hfit : (m + k) * bt ≤ 140737488355328) (hsm : m + k ≤ 9223372036854775807) (hK : ∀ q c' l', SlO s e (.slice q (m + k) c') (m + k) (xs ++ news) l' → m + k ≤ c' → K (.slice q (m + k) c') (A ++ (l' ++ R))) :
    EF P W n L E ⟨d, .call ⟨.builtin .append, #[x, y], #[T, T]⟩, t, pos, after, g⟩ K :=
  ef_append A R l hx hy hO hL hsrc hk h1a hs hfit hsm fun v' l' h => by
    obtain ⟨q, c', rfl, h, hc⟩ := h.opn
    exact hK q c' l' h hc
end
/-- The results are one whole block, and two values. -/
theorem xq_retB3 {P : Program} {W : World} {n : Nat} {L : List Blk} {E : List (Nat × Value)} {K : Value → List Blk → Prop} {fn : Func} {t u s T b m : Nat} {vs : List Value} {x y : Value} {T' : TypeId} {fr : Nat × Nat} {e : Exit} [hA : Ta P T true] [hS : Ts P T m] (he : e = .ret ∨ e = .normal) (hr : fn.results = #[.cell t T, .tmp u, .tmp s]) (ht : lk E t = some (.pointer (some ⟨b, 0, none⟩)))
    (hu : lk E u = some x) (hs : lk E s = some y) (hk : Kn W L b (.cells vs.toArray T' fr)) (hm : vs.length = m) {L' : List Blk} (hL : L'.Sublist L) (h : K (.tuple #[.agg vs.toArray, x, y]) L') : XQ W n (bodyPost P fn (XP W K)) e L E :=
  xq_retg' hL he (fun a w ha hw => by
    have h1 := hA.h w
    have h2 := hS.h w
    subst hm
    have hl := run_loadCells_list (P := P) w ⟨b, 0, none⟩ vs (fun j v hj => by
      rw [add_zero', Nat.zero_add]
      exact (Cl.get (L := L) ⟨_, _, _, hk, by simpa using hj⟩ hw))
    have hv := ha.val t _ ht
    have hv2 := ha.val u _ hu
    have hv3 := ha.val s _ hs
    simp [results, hr, Array.getD_eq_getD_getElem?, hv, hv2, hv3, asAddr, loadVar, h1, h2, hl]) h
/-- A text's bytes, as whole numbers. -/
def sbs (s : ByteArray) : List Int := s.data.toList.map fun b => (b.toNat : Int)
theorem sbs_len (s : ByteArray) : (sbs s).length = s.size := by simp only [sbs, List.length_map, Array.length_toList]; rfl
theorem Rs.ofBytes {W : World} {L : List Blk} {r : Nat} {s : ByteArray} {cap : Nat} {e : TypeId} {fr : Nat × Nat} : Rs W ((r, .cells (bytesRow s cap) e fr) :: L) (some ⟨r, 0, none⟩) (ints .u8 (sbs s)) := fun j u hj => by
  refine ⟨r, 0, rfl, Cl.own (List.Mem.head _) ?_⟩
  rw [Nat.zero_add]
  unfold bytesRow
  have hlt : j < s.data.size := by
    have := (List.getElem?_eq_some_iff.1 hj).1
    simpa [ints, sbs] using this
  rw [Array.getElem?_append_left (by simpa using hlt)]
  simpa [ints, sbs, hlt] using hj
section
variable {P : Program} {W : World} {n : Nat} {L : List Blk} {E : List (Nat × Value)} {d : Option Nat} {t : TypeId} {pos : String} {after : Array Edge} {g : Option (Nat × Bool)} {K : Value → List Blk → Prop}
theorem ef_convBytes {S T e : Nat} {x : Operand} {s : ByteArray} [hS : St P S] [hT : Sl P T e] [he : Ik P e .u8] (hx : ev E x = some (.string s))
    (hk : ∀ r cap fr, K (.slice (some ⟨r, 0, none⟩) s.size cap) ((r, .cells (bytesRow s cap) e fr) :: L)) : EF P W n L E ⟨d, .convert S T x, t, pos, after, g⟩ K := by
  refine ⟨fun a w ha hw => ?_⟩
  have hr := run_bytes_of_string (P := P) w S T e s hS.h hT.h he.h
  have hrun : (execOp a.eval ⟨d, .convert S T x, t, pos, after, g⟩).run P w = ((convert S T (.string s)).run P w).andThen fun v w => .ok (.value v) w := by
    simp [execOp, ha.eval hx]
  rw [hrun, hr]
  exact ⟨_, hw.drew.alloc _, hk _ _ _⟩
/-- '[]byte("..")', spelt as a literal: the row bears the run-time's mark. -/
theorem ef_convMark (A R : List Blk) {T e m c b o : Nat} {x : Operand} {cs : Array Value} {T' : TypeId} {fr0 : Nat × Nat} [hT : Sl P T e] [he : Ik P e .u8] (hx : ev E x = some (.slice (some ⟨b, o, none⟩) m c)) (hL : L = A ++ (b, .cells cs T' fr0) :: R)
    (hk : ∀ fr, K (.slice (some ⟨b, o, none⟩) m c) (A ++ (b, .cells cs T' fr) :: R)) : EF P W n L E ⟨d, .convert T T x, t, pos, after, g⟩ K := by
  refine ⟨fun a w ha hw => ?_⟩
  subst hL
  have h1 := hw.mid
  have hlt : b < w.heap.size := (Array.getElem?_eq_some_iff.1 h1).1
  obtain ⟨lo, hi⟩ := fr0
  have hsh : w.shape? b = some (T', cs.size) := by unfold World.shape?; rw [h1]
  have hrun : (execOp a.eval ⟨d, .convert T T x, t, pos, after, g⟩).run P w = .ok (.value (.slice (some ⟨b, o, none⟩) m c)) (w.freeze ⟨b, cs.size, none⟩ 1) := by
    simp [execOp, ha.eval hx, convert, run_underlying hT.h, run_underlying he.h, markStringish, hsh]
  rw [hrun]
  have hget : ∀ k, (w.freeze ⟨b, cs.size, none⟩ 1).heap[k]? = if b = k then (w.heap[k]?).map (fun
      | .cells c elem (lo, hi) => .cells c elem (if lo == hi then (cs.size, cs.size + 1) else (min lo cs.size, max hi (cs.size + 1)))
      | o => o) else w.heap[k]? := fun k => by
    unfold World.freeze
    rw [if_neg (by decide)]
    exact Array.getElem?_modify
  refine ⟨_, hw.turnAt rfl rfl rfl (o' := .cells cs T' (if lo == hi then (cs.size, cs.size + 1) else (min lo cs.size, max hi (cs.size + 1)))) ?_ (fun k hk => ?_), hk _⟩
  · rw [hget, if_pos rfl, h1]; rfl
  · rw [hget, if_neg (fun e => hk e.symm)]
theorem rd_convStr {S T e m c : Nat} {x : Operand} {p : Option Addr} {bs : List Int} [hS : Sl P S e] [he : Ik P e .u8] [hT : St P T] (hr : Rs W L p (ints .u8 bs)) (hx : ev E x = some (.slice p m c)) (hm : bs.length = m) :
    RD P W n L E ⟨d, .convert S T x, t, pos, after, g⟩ (.string (strOfNums bs)) := .mk fun a w ha hw => by
  have hrun : (convert S T (.slice p m c)).run P w = .ok (.string (strOfNums bs)) w := by
    cases p with
    | none =>
      have h0 := hr.none_nil
      have hb : bs = [] := by simpa [ints] using h0
      subst hb
      rw [run_convert_bytes_string w S T e none m c hS.h he.h hT.h]
      rfl
    | some q =>
      obtain ⟨b, o, sp⟩ := q
      by_cases h0 : bs = []
      · subst h0
        simp only [List.length_nil] at hm
        subst hm
        rw [run_convert_bytes_string w S T e _ 0 c hS.h he.h hT.h, run_bytesToString w _ 0 c [] (by simp [loadCells, loadCellsFrom])]
        rfl
      · have hl : 0 < (ints .u8 bs).length := by rw [ints_len]; exact List.length_pos_iff.2 h0
        obtain ⟨b', o', hp, _⟩ := hr 0 _ (List.getElem?_eq_getElem hl)
        simp only [Option.some.injEq, Addr.mk.injEq] at hp
        obtain ⟨rfl, rfl, rfl⟩ := hp
        refine run_convert_bytes_arg w S e hS.h he.h b o m c bs hm (fun i hi => ?_) T hT.h
        obtain ⟨b', o', hp, hc⟩ := hr i _ (ints_get .u8 bs i (by omega))
        simp only [Option.some.injEq, Addr.mk.injEq, and_true] at hp
        obtain ⟨rfl, rfl⟩ := hp
        rw [hc.get hw]
        simp [List.getD, List.getElem?_eq_getElem (show i < bs.length by omega)]
  simp [execOp, ha.eval hx, hrun]
theorem beq_bytes {a b : ByteArray} : (a.toList == b.toList) = decide (a = b) := by
  have h : a.toList = b.toList ↔ a = b := ⟨fun h => by
    rw [ByteArray.toList_eq, ByteArray.toList_eq] at h
    cases a; cases b
    congr 1
    exact Array.toList_inj.1 h, fun h => by rw [h]⟩
  rw [Bool.eq_iff_iff, beq_iff_eq, decide_eq_true_iff, h]
theorem rd_eqs {T T' : Nat} {x y : Operand} {i j : ByteArray} [hT : St P T] (hx : ev E x = some (.string i)) (hy : ev E y = some (.string j)) :
    RD P W n L E ⟨d, .binOp .eql T x y T', t, pos, after, g⟩ (.bool (decide (i = j))) := .mk fun a w ha hw => by
  have hb := beq_bytes (a := i) (b := j)
  simp [execOp, ha.eval hx, ha.eval hy, eqGuard, binOp, Op.stringOp, hb]
theorem rd_nes {T T' : Nat} {x y : Operand} {i j : ByteArray} [hT : St P T] (hx : ev E x = some (.string i)) (hy : ev E y = some (.string j)) :
    RD P W n L E ⟨d, .binOp .neq T x y T', t, pos, after, g⟩ (.bool (!decide (i = j))) := .mk fun a w ha hw => by
  have hb := beq_bytes (a := i) (b := j)
  simp [execOp, ha.eval hx, ha.eval hy, eqGuard, binOp, Op.stringOp, hb]
end
end Go.Proofs.Ytoolgphkfnkajaa.X
