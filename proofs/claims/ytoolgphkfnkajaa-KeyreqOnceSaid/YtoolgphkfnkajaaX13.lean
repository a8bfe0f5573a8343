/-
  Words of my own for walks, thirteenth part: rows of whole numbers, slices with three bounds, elements of owned slices, calls that leave all as it was. No condition; generic over the program.
-/
import Derived.Test.YtoolgphkfnkajaaX12
namespace Go.Proofs.Ytoolgphkfnkajaa.X
open Go Go.RowKit
set_option linter.unusedVariables false
set_option linter.unusedSimpArgs false

def ints (k : IntKind) (l : List Int) : List Value := l.map (Value.int k)
theorem ints_flat (k : IntKind) : ∀ l : List Int, l.flatMap (fun n => [Value.int k n]) = ints k l
  | [] => rfl
  | x :: r => by rw [List.flatMap_cons, ints_flat k r]; rfl
theorem ints_len (k : IntKind) (l : List Int) : (ints k l).length = l.length := by simp [ints]
theorem ints_one (k : IntKind) (l : List Int) : (ints k l).all (·.oneCell') = true := by simp [ints, List.all_map, Value.oneCell']
theorem ints_app (k : IntKind) (l r : List Int) : ints k (l ++ r) = ints k l ++ ints k r := by simp [ints]
theorem ints_take (k : IntKind) (l : List Int) (n : Nat) : ints k (l.take n) = (ints k l).take n := by simp [ints]
theorem ints_drop (k : IntKind) (l : List Int) (n : Nat) : ints k (l.drop n) = (ints k l).drop n := by simp [ints]
theorem ints_get (k : IntKind) (l : List Int) (i : Nat) (h : i < l.length) : (ints k l)[i]? = some (.int k l[i]) := by simp [ints, h]
theorem Rs.int {W : World} {L : List Blk} {p : Option Addr} {k : IntKind} {l : List Int} (hr : Rs W L p (ints k l)) {i : Nat} (hi : i < l.length) :
    ∃ b o, p = some ⟨b, o, none⟩ ∧ Cl W L b (o + i * 1) (.int k l[i]) := by
  obtain ⟨b, o, hp, hc⟩ := hr _ _ (ints_get k l i hi)
  exact ⟨b, o, hp, by rw [Nat.mul_one]; exact hc⟩
theorem Rs.none_nil {W : World} {L : List Blk} {xs : List Value} (h : Rs W L none xs) : xs = [] := by
  cases xs with
  | nil => rfl
  | cons x r => obtain ⟨b, o, hp, _⟩ := h 0 x rfl; cases hp
theorem Rs.skip {W : World} {L : List Blk} {p : Option Addr} {xs : List Value} {q : Blk} (h : Rs W L p xs) : Rs W (q :: L) p xs := h.mono fun _ hq => List.mem_cons_of_mem _ hq
theorem Rs.app {W : World} {L A : List Blk} {p : Option Addr} {xs : List Value} (h : Rs W L p xs) : Rs W (A ++ L) p xs := h.mono fun _ hq => List.mem_append_right _ hq
theorem Rs.appl {W : World} {L A : List Blk} {p : Option Addr} {xs : List Value} (h : Rs W L p xs) : Rs W (L ++ A) p xs := h.mono fun _ hq => List.mem_append_left _ hq
theorem Rs.nilL {W : World} {L : List Blk} {p : Option Addr} {xs : List Value} (h : Rs W [] p xs) : Rs W L p xs := h.mono fun _ hq => by cases hq
/-- The tail of a source. -/
theorem Rs.drop {W : World} {L : List Blk} {b o : Nat} {xs : List Value} (h : Rs W L (some ⟨b, o, none⟩) xs) (k : Nat) : Rs W L (some ⟨b, o + k, none⟩) (xs.drop k) := fun j u hj => by
  rw [List.getElem?_drop] at hj
  obtain ⟨b', o', hp, hc⟩ := h (k + j) u hj
  simp only [Option.some.injEq, Addr.mk.injEq] at hp
  obtain ⟨rfl, rfl, _⟩ := hp
  exact ⟨b, o + k, rfl, by rw [Nat.add_assoc]; exact hc⟩
theorem SlO.rsl {W : World} {s : Nat} {e : TypeId} {p : Option Addr} {m c : Nat} {xs : List Value} {l R : List Blk} (h : SlO s e (.slice p m c) m xs l) : Rs W (l ++ R) p xs := h.rs fun _ hq => List.mem_append_left _ hq
theorem SlO.cap {s : Nat} {e : TypeId} {p : Option Addr} {m k c : Nat} {xs : List Value} {l : List Blk} (h : SlO s e (.slice p k c) m xs l) : k = m ∧ m ≤ c := by
  rcases h with ⟨h, rfl, _⟩ | ⟨b, cs, cap, h, _, h1, _⟩
  · simp only [Value.slice.injEq] at h; omega
  · simp only [Value.slice.injEq] at h; omega
/-- Its value, opened. -/
theorem SlO.opn {s : Nat} {e : TypeId} {v : Value} {m : Nat} {xs : List Value} {l : List Blk} (h : SlO s e v m xs l) : ∃ p c, v = .slice p m c ∧ SlO s e (.slice p m c) m xs l ∧ m ≤ c := by
  obtain ⟨p, c, rfl⟩ := h.val
  exact ⟨p, c, rfl, h, h.cap.2⟩
section
variable {P : Program} {W : World} {n : Nat} {L : List Blk} {E : List (Nat × Value)} {d : Option Nat} {t : TypeId} {pos : String} {after : Array Edge} {g : Option (Nat × Bool)} {K : Value → List Blk → Prop}
theorem rd_slice3v {T e m b o len cap : Nat} {x lo hi mx : Operand} {k k' k'' : IntKind} {i j q : Int} [hT : Sl P T e] [hS : Ts P e m] (hx : ev E x = some (.slice (some ⟨b, o, none⟩) len cap)) (hl : ev E lo = some (.int k i)) (hh : ev E hi = some (.int k' j)) (hm : ev E mx = some (.int k'' q))
    (h0 : 0 ≤ i) (h1 : i ≤ j) (h2 : j ≤ q) (h3 : q ≤ cap) :
    RD P W n L E ⟨d, .slice T x (some lo) (some hi) (some mx), t, pos, after, g⟩ (.slice (if q.toNat = i.toNat then some ⟨b, o, none⟩ else some ⟨b, o + i.toNat * m, none⟩) (j.toNat - i.toNat) (q.toNat - i.toNat)) := .mk fun a w ha hw => by
  have hB := hS.h w
  have e1 : 0 ≤ j := by omega
  have e2 : 0 ≤ q := by omega
  have e3 : j ≤ (q.toNat : Int) := by omega
  have e4 : i ≤ (j.toNat : Int) := by omega
  have e5 : j ≤ max q 0 := by omega
  have e6 : i ≤ max j 0 := by omega
  simp [execOp, ha.eval hx, ha.eval hl, ha.eval hh, ha.eval hm, Instr.sliceAt, Instr.slice, Instr.sliceBounds, Instr.sliceBound, run_underlying hT.h, asIntOf, hB, h0, h1, h2, h3, e1, e2, e3, e4, e5, e6, add_zero']
/-- An element of an owned slice is written. -/
theorem ef_storeEl (A R : List Blk) {T m b i cap : Nat} {x y : Operand} {v : Value} {xs : List Value} {k : Nat} {e : TypeId} {l : List Blk} {p : Option Addr} [hS : Ts P T m] (hO : SlO m e (.slice p k cap) k xs l) (hx : ev E x = some (.pointer (some ⟨b, i * m, none⟩))) (hb : p = some ⟨b, 0, none⟩) (hik : i < k) (hy : ev E y = some v)
    (hv1 : v.cells.toList.all (·.oneCell') = true) (hvm : v.cells.size = m) (h0 : 0 < m)
    (hL : L = A ++ (l ++ R)) (hK : ∀ l', SlO m e (.slice p k cap) k (xs.take (i * m) ++ v.cells.toList ++ xs.drop ((i + 1) * m)) l' → K undef (A ++ (l' ++ R))) : EF P W n L E ⟨d, .store T x y, t, pos, after, g⟩ K := by
  have hlen := hO.len
  rcases hO with ⟨hn, hk, _⟩ | ⟨b', cs, cap', hv, rfl, h1, h2, h3⟩
  · omega
  · subst hb
    simp only [Value.slice.injEq, Option.some.injEq, Addr.mk.injEq, and_true, true_and] at hv
    obtain ⟨rfl, rfl⟩ := hv
    subst hL
    have hfit : i * m + m ≤ cs.size := by
      rw [h2]
      calc i * m + m = (i + 1) * m := by rw [Nat.add_mul]; omega
        _ ≤ cap * m := Nat.mul_le_mul_right _ (by omega)
    have hkm : i * m + m ≤ k * m := by
      calc i * m + m = (i + 1) * m := by rw [Nat.add_mul]; omega
        _ ≤ k * m := Nat.mul_le_mul_right _ (by omega)
    have hkc : k * m ≤ cs.size := by rw [h2]; exact Nat.mul_le_mul_right _ h1
    refine ⟨fun a w ha hw => ?_⟩
    have hB := hS.h w
    have hst := run_storeCells_at P b (i * m) e v.cells.toList 0 cs w hw.mid (by simp [hvm]; omega) (List.all_eq_true.1 hv1)
    simp only [Nat.add_zero] at hst
    have hrun : (execOp a.eval ⟨d, .store T x y, t, pos, after, g⟩).run P w = .ok .skip (w.setRow b (cs.toList.take (i * m) ++ v.cells.toList ++ cs.toList.drop (i * m + v.cells.toList.length)).toArray) := by
      simp only [execOp, ha.eval hx, ha.eval hy, Instr.storeAt, Instr.sureAddr, storeVar, Sem.run_bind, Sem.run_pure, Result.andThen_ok, hB]
      simp [hvm, hst]
    rw [hrun]
    refine ⟨_, hw.turnAt rfl rfl rfl (setRow_heap w b cs _ e (0, 0) hw.mid) (fun q hq => setRow_other w b q _ hq), hK [(b, _)] (.inr ⟨b, _, cap, rfl, rfl, h1, ?_, ?_⟩)⟩
    · simp only [List.size_toArray, List.length_append, List.length_take, List.length_drop, Array.length_toList, hvm]
      rw [← h2]; omega
    · have e1 : i * m + v.cells.toList.length = (i + 1) * m := by rw [Array.length_toList, hvm, Nat.add_mul]; omega
      rw [e1, ← h3]
      have e2 : (i + 1) * m ≤ k * m := by rw [Nat.add_mul]; omega
      apply List.ext_getElem?
      intro j
      simp only [List.getElem?_take, List.getElem?_append, List.length_append, List.length_take, Array.length_toList, hvm, List.getElem?_drop]
      have a1 : min (i * m) cs.size = i * m := by omega
      have a2 : min (i * m) (min (k * m) cs.size) = i * m := by omega
      simp only [a1, a2]
      by_cases c1 : j < k * m
      · by_cases c2 : j < i * m + m
        · by_cases c3 : j < i * m
          · simp [c1, c2, c3]
          · simp [c1, c2, c3]
        · have c4 : (i + 1) * m + (j - (i * m + m)) < k * m := by rw [Nat.add_mul]; omega
          simp [c1, c2, c4]
      · have c2 : ¬ j < i * m + m := by omega
        have c4 : ¬ (i + 1) * m + (j - (i * m + m)) < k * m := by rw [Nat.add_mul]; omega
        simp [c1, c2, c4]
/-- The same, where the slice's place is spelt. -/
theorem ef_storeElo (A R : List Blk) {T m b o i cap : Nat} {x y : Operand} {v : Value} {xs : List Value} {k : Nat} {e : TypeId} {l : List Blk} {p : Option Addr} [hS : Ts P T m] (hO : SlO m e (.slice p k cap) k xs l) (hx : ev E x = some (.pointer (some ⟨b, o + i * m, none⟩))) (hb : p = some ⟨b, o, none⟩) (hik : i < k) (hy : ev E y = some v)
    (hv1 : v.cells.toList.all (·.oneCell') = true) (hvm : v.cells.size = m) (h0 : 0 < m)
    (hL : L = A ++ (l ++ R)) (hK : ∀ l', SlO m e (.slice p k cap) k (xs.take (i * m) ++ v.cells.toList ++ xs.drop ((i + 1) * m)) l' → K undef (A ++ (l' ++ R))) : EF P W n L E ⟨d, .store T x y, t, pos, after, g⟩ K := by
  have ho : o = 0 := by
    rcases hO with ⟨hn, hk, _⟩ | ⟨b', cs, cap', hv, _⟩
    · omega
    · subst hb
      simp only [Value.slice.injEq, Option.some.injEq, Addr.mk.injEq] at hv
      exact hv.1.2.1
  subst ho
  rw [Nat.zero_add] at hx
  exact ef_storeEl A R hO hx hb hik hy hv1 hvm h0 hL hK
end
section
variable {P : Program} {W : World} {n : Nat} {L : List Blk} {E : List (Nat × Value)} {Q : Exit → Act → World → Prop}
/-- Two parts of code, with what is known between them. -/
theorem xc_join {x y : Code} {ι : Type} (I : ι → Prop) (Ls : ι → List Blk) (Es : ι → List (Nat × Value)) (h1 : XC P W n x (Exit.then (fun a w => ∃ j, I j ∧ Env n a (Es j) ∧ Hp W w (Ls j)) Q) L E) (h2 : ∀ j, I j → XC P W n y Q (Ls j) (Es j)) : XC P W n (.seq x y) Q L E := .mk fun a w ha hw => by
  refine wp_seq (Code.wp_mono ?_ (h1.run a w ha hw))
  intro e a' w' q
  cases e with
  | normal => obtain ⟨j, q1, q2, q3⟩ := q; exact (h2 j q1).run _ _ q2 q3
  | _ => exact q
theorem xq_joined {ι : Type} {I : ι → Prop} {Ls : ι → List Blk} {Es : ι → List (Nat × Value)} (j : ι) (hj : I j) (hL : L = Ls j) (hE : ∀ k v, lk (Es j) k = some v → lk E k = some v) : XQ W n (Exit.then (fun a w => ∃ j, I j ∧ Env n a (Es j) ∧ Hp W w (Ls j)) Q) .normal L E := .mk fun a w ha hw => ⟨j, hj, ha.keep hE, hL ▸ hw⟩
end
/-- What stands for every world in which all is old stands with blocks of one's own, which stay. -/
theorem xf_over {P : Program} {W : World} {L : List Blk} {f : FuncId} {args : Array Value} {v0 : Value} (h : ∀ w, Hp W w L → XF P w f args [] (fun v L' => v = v0)) : XF P W f args L (fun v L' => v = v0 ∧ L' = L) := .mk fun w hw =>
  Calls.mono ((h w hw).run w (Hp.start w)) fun e w' ⟨v, h1, L', h2, h3⟩ => ⟨v, h1, L, hw.over h2, h3, rfl⟩
theorem Rs.over {W w : World} {L : List Blk} {p : Option Addr} {xs : List Value} (hw : Hp W w L) (h : Rs W L p xs) : Rs w [] p xs := fun j u hj => by
  obtain ⟨b, o, h1, h2⟩ := h j u hj
  exact ⟨b, o, h1, h2.over hw⟩

/-- The place of a number in a row; -1: it is not there. -/
def ixOf (ns : List Int) (x : Int) : Int := match ns.findIdx? (· == x) with
  | some i => i
  | none => -1
theorem ixOf_none {ns : List Int} {x : Int} (h : ∀ i, (hi : i < ns.length) → ns[i] ≠ x) : ixOf ns x = -1 := by
  unfold ixOf
  have : ns.findIdx? (· == x) = none := by
    rw [List.findIdx?_eq_none_iff]
    intro y hy
    obtain ⟨i, hi, rfl⟩ := List.getElem_of_mem hy
    simpa using h i hi
  rw [this]
theorem ixOf_some {ns : List Int} {x : Int} {k : Nat} (hk : k < ns.length) (h1 : ns[k] = x) (h : ∀ i, (hi : i < k) → ns[i]'(by omega) ≠ x) : ixOf ns x = k := by
  unfold ixOf
  have : ns.findIdx? (· == x) = some k := by
    rw [List.findIdx?_eq_some_iff_getElem]
    exact ⟨hk, by simp [h1], fun j hj => by simpa using h j hj⟩
  rw [this]
end Go.Proofs.Ytoolgphkfnkajaa.X
