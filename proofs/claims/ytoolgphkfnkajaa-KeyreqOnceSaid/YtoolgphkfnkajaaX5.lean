/-
  Words of my own for walks, fifth part: places in a list of blocks, sums that fit, tests. No condition; generic over the program.
-/
import Derived.Test.YtoolgphkfnkajaaX4
namespace Go.Proofs.Ytoolgphkfnkajaa.X
open Go Go.RowKit
set_option linter.unusedVariables false
set_option linter.unusedSimpArgs false

theorem Cl.o0 {W : World} {b i : Nat} {vs : List Value} {T : TypeId} {fr : Nat × Nat} {R : List Blk} {v : Value} (h : vs[i]? = some v) : Cl W ((b, .cells vs.toArray T fr) :: R) b i v := Cl.own (List.Mem.head _) (by simpa using h)
theorem Kn.o0 {W : World} {b : Nat} {o : Obj} {R : List Blk} : Kn W ((b, o) :: R) b o := .inr (List.Mem.head _)
theorem Cl.o1 {W : World} {p0 : Blk} {b i : Nat} {vs : List Value} {T : TypeId} {fr : Nat × Nat} {R : List Blk} {v : Value} (h : vs[i]? = some v) : Cl W (p0 :: (b, .cells vs.toArray T fr) :: R) b i v := Cl.own (List.Mem.tail _ (List.Mem.head _)) (by simpa using h)
theorem Kn.o1 {W : World} {p0 : Blk} {b : Nat} {o : Obj} {R : List Blk} : Kn W (p0 :: (b, o) :: R) b o := .inr (List.Mem.tail _ (List.Mem.head _))
theorem Cl.o2 {W : World} {p0 p1 : Blk} {b i : Nat} {vs : List Value} {T : TypeId} {fr : Nat × Nat} {R : List Blk} {v : Value} (h : vs[i]? = some v) : Cl W (p0 :: p1 :: (b, .cells vs.toArray T fr) :: R) b i v := Cl.own (List.Mem.tail _ (List.Mem.tail _ (List.Mem.head _))) (by simpa using h)
theorem Kn.o2 {W : World} {p0 p1 : Blk} {b : Nat} {o : Obj} {R : List Blk} : Kn W (p0 :: p1 :: (b, o) :: R) b o := .inr (List.Mem.tail _ (List.Mem.tail _ (List.Mem.head _)))
theorem Cl.o3 {W : World} {p0 p1 p2 : Blk} {b i : Nat} {vs : List Value} {T : TypeId} {fr : Nat × Nat} {R : List Blk} {v : Value} (h : vs[i]? = some v) : Cl W (p0 :: p1 :: p2 :: (b, .cells vs.toArray T fr) :: R) b i v := Cl.own (List.Mem.tail _ (List.Mem.tail _ (List.Mem.tail _ (List.Mem.head _)))) (by simpa using h)
theorem Kn.o3 {W : World} {p0 p1 p2 : Blk} {b : Nat} {o : Obj} {R : List Blk} : Kn W (p0 :: p1 :: p2 :: (b, o) :: R) b o := .inr (List.Mem.tail _ (List.Mem.tail _ (List.Mem.tail _ (List.Mem.head _))))
theorem Cl.o4 {W : World} {p0 p1 p2 p3 : Blk} {b i : Nat} {vs : List Value} {T : TypeId} {fr : Nat × Nat} {R : List Blk} {v : Value} (h : vs[i]? = some v) : Cl W (p0 :: p1 :: p2 :: p3 :: (b, .cells vs.toArray T fr) :: R) b i v := Cl.own (List.Mem.tail _ (List.Mem.tail _ (List.Mem.tail _ (List.Mem.tail _ (List.Mem.head _))))) (by simpa using h)
theorem Kn.o4 {W : World} {p0 p1 p2 p3 : Blk} {b : Nat} {o : Obj} {R : List Blk} : Kn W (p0 :: p1 :: p2 :: p3 :: (b, o) :: R) b o := .inr (List.Mem.tail _ (List.Mem.tail _ (List.Mem.tail _ (List.Mem.tail _ (List.Mem.head _)))))
theorem Cl.o5 {W : World} {p0 p1 p2 p3 p4 : Blk} {b i : Nat} {vs : List Value} {T : TypeId} {fr : Nat × Nat} {R : List Blk} {v : Value} (h : vs[i]? = some v) : Cl W (p0 :: p1 :: p2 :: p3 :: p4 :: (b, .cells vs.toArray T fr) :: R) b i v := Cl.own (List.Mem.tail _ (List.Mem.tail _ (List.Mem.tail _ (List.Mem.tail _ (List.Mem.tail _ (List.Mem.head _)))))) (by simpa using h)
theorem Kn.o5 {W : World} {p0 p1 p2 p3 p4 : Blk} {b : Nat} {o : Obj} {R : List Blk} : Kn W (p0 :: p1 :: p2 :: p3 :: p4 :: (b, o) :: R) b o := .inr (List.Mem.tail _ (List.Mem.tail _ (List.Mem.tail _ (List.Mem.tail _ (List.Mem.tail _ (List.Mem.head _))))))
theorem Cl.o6 {W : World} {p0 p1 p2 p3 p4 p5 : Blk} {b i : Nat} {vs : List Value} {T : TypeId} {fr : Nat × Nat} {R : List Blk} {v : Value} (h : vs[i]? = some v) : Cl W (p0 :: p1 :: p2 :: p3 :: p4 :: p5 :: (b, .cells vs.toArray T fr) :: R) b i v := Cl.own (List.Mem.tail _ (List.Mem.tail _ (List.Mem.tail _ (List.Mem.tail _ (List.Mem.tail _ (List.Mem.tail _ (List.Mem.head _))))))) (by simpa using h)
theorem Kn.o6 {W : World} {p0 p1 p2 p3 p4 p5 : Blk} {b : Nat} {o : Obj} {R : List Blk} : Kn W (p0 :: p1 :: p2 :: p3 :: p4 :: p5 :: (b, o) :: R) b o := .inr (List.Mem.tail _ (List.Mem.tail _ (List.Mem.tail _ (List.Mem.tail _ (List.Mem.tail _ (List.Mem.tail _ (List.Mem.head _)))))))
theorem Cl.o7 {W : World} {p0 p1 p2 p3 p4 p5 p6 : Blk} {b i : Nat} {vs : List Value} {T : TypeId} {fr : Nat × Nat} {R : List Blk} {v : Value} (h : vs[i]? = some v) : Cl W (p0 :: p1 :: p2 :: p3 :: p4 :: p5 :: p6 :: (b, .cells vs.toArray T fr) :: R) b i v := Cl.own (List.Mem.tail _ (List.Mem.tail _ (List.Mem.tail _ (List.Mem.tail _ (List.Mem.tail _ (List.Mem.tail _ (List.Mem.tail _ (List.Mem.head _)))))))) (by simpa using h)
theorem Kn.o7 {W : World} {p0 p1 p2 p3 p4 p5 p6 : Blk} {b : Nat} {o : Obj} {R : List Blk} : Kn W (p0 :: p1 :: p2 :: p3 :: p4 :: p5 :: p6 :: (b, o) :: R) b o := .inr (List.Mem.tail _ (List.Mem.tail _ (List.Mem.tail _ (List.Mem.tail _ (List.Mem.tail _ (List.Mem.tail _ (List.Mem.tail _ (List.Mem.head _))))))))
theorem Cl.o8 {W : World} {p0 p1 p2 p3 p4 p5 p6 p7 : Blk} {b i : Nat} {vs : List Value} {T : TypeId} {fr : Nat × Nat} {R : List Blk} {v : Value} (h : vs[i]? = some v) : Cl W (p0 :: p1 :: p2 :: p3 :: p4 :: p5 :: p6 :: p7 :: (b, .cells vs.toArray T fr) :: R) b i v := Cl.own (List.Mem.tail _ (List.Mem.tail _ (List.Mem.tail _ (List.Mem.tail _ (List.Mem.tail _ (List.Mem.tail _ (List.Mem.tail _ (List.Mem.tail _ (List.Mem.head _))))))))) (by simpa using h)
theorem Kn.o8 {W : World} {p0 p1 p2 p3 p4 p5 p6 p7 : Blk} {b : Nat} {o : Obj} {R : List Blk} : Kn W (p0 :: p1 :: p2 :: p3 :: p4 :: p5 :: p6 :: p7 :: (b, o) :: R) b o := .inr (List.Mem.tail _ (List.Mem.tail _ (List.Mem.tail _ (List.Mem.tail _ (List.Mem.tail _ (List.Mem.tail _ (List.Mem.tail _ (List.Mem.tail _ (List.Mem.head _)))))))))
theorem Cl.o9 {W : World} {p0 p1 p2 p3 p4 p5 p6 p7 p8 : Blk} {b i : Nat} {vs : List Value} {T : TypeId} {fr : Nat × Nat} {R : List Blk} {v : Value} (h : vs[i]? = some v) : Cl W (p0 :: p1 :: p2 :: p3 :: p4 :: p5 :: p6 :: p7 :: p8 :: (b, .cells vs.toArray T fr) :: R) b i v := Cl.own (List.Mem.tail _ (List.Mem.tail _ (List.Mem.tail _ (List.Mem.tail _ (List.Mem.tail _ (List.Mem.tail _ (List.Mem.tail _ (List.Mem.tail _ (List.Mem.tail _ (List.Mem.head _)))))))))) (by simpa using h)
theorem Kn.o9 {W : World} {p0 p1 p2 p3 p4 p5 p6 p7 p8 : Blk} {b : Nat} {o : Obj} {R : List Blk} : Kn W (p0 :: p1 :: p2 :: p3 :: p4 :: p5 :: p6 :: p7 :: p8 :: (b, o) :: R) b o := .inr (List.Mem.tail _ (List.Mem.tail _ (List.Mem.tail _ (List.Mem.tail _ (List.Mem.tail _ (List.Mem.tail _ (List.Mem.tail _ (List.Mem.tail _ (List.Mem.tail _ (List.Mem.head _))))))))))
theorem Cl.o10 {W : World} {p0 p1 p2 p3 p4 p5 p6 p7 p8 p9 : Blk} {b i : Nat} {vs : List Value} {T : TypeId} {fr : Nat × Nat} {R : List Blk} {v : Value} (h : vs[i]? = some v) : Cl W (p0 :: p1 :: p2 :: p3 :: p4 :: p5 :: p6 :: p7 :: p8 :: p9 :: (b, .cells vs.toArray T fr) :: R) b i v := Cl.own (List.Mem.tail _ (List.Mem.tail _ (List.Mem.tail _ (List.Mem.tail _ (List.Mem.tail _ (List.Mem.tail _ (List.Mem.tail _ (List.Mem.tail _ (List.Mem.tail _ (List.Mem.tail _ (List.Mem.head _))))))))))) (by simpa using h)
theorem Kn.o10 {W : World} {p0 p1 p2 p3 p4 p5 p6 p7 p8 p9 : Blk} {b : Nat} {o : Obj} {R : List Blk} : Kn W (p0 :: p1 :: p2 :: p3 :: p4 :: p5 :: p6 :: p7 :: p8 :: p9 :: (b, o) :: R) b o := .inr (List.Mem.tail _ (List.Mem.tail _ (List.Mem.tail _ (List.Mem.tail _ (List.Mem.tail _ (List.Mem.tail _ (List.Mem.tail _ (List.Mem.tail _ (List.Mem.tail _ (List.Mem.tail _ (List.Mem.head _)))))))))))
theorem Cl.o11 {W : World} {p0 p1 p2 p3 p4 p5 p6 p7 p8 p9 p10 : Blk} {b i : Nat} {vs : List Value} {T : TypeId} {fr : Nat × Nat} {R : List Blk} {v : Value} (h : vs[i]? = some v) : Cl W (p0 :: p1 :: p2 :: p3 :: p4 :: p5 :: p6 :: p7 :: p8 :: p9 :: p10 :: (b, .cells vs.toArray T fr) :: R) b i v := Cl.own (List.Mem.tail _ (List.Mem.tail _ (List.Mem.tail _ (List.Mem.tail _ (List.Mem.tail _ (List.Mem.tail _ (List.Mem.tail _ (List.Mem.tail _ (List.Mem.tail _ (List.Mem.tail _ (List.Mem.tail _ (List.Mem.head _)))))))))))) (by simpa using h)
theorem Kn.o11 {W : World} {p0 p1 p2 p3 p4 p5 p6 p7 p8 p9 p10 : Blk} {b : Nat} {o : Obj} {R : List Blk} : Kn W (p0 :: p1 :: p2 :: p3 :: p4 :: p5 :: p6 :: p7 :: p8 :: p9 :: p10 :: (b, o) :: R) b o := .inr (List.Mem.tail _ (List.Mem.tail _ (List.Mem.tail _ (List.Mem.tail _ (List.Mem.tail _ (List.Mem.tail _ (List.Mem.tail _ (List.Mem.tail _ (List.Mem.tail _ (List.Mem.tail _ (List.Mem.tail _ (List.Mem.head _))))))))))))

theorem Cl.skip {W : World} {p : Blk} {b i : Nat} {R : List Blk} {v : Value} (h : Cl W R b i v) : Cl W (p :: R) b i v := h.mono fun _ hq => List.mem_cons_of_mem _ hq
theorem Cl.app {W : World} {A : List Blk} {b i : Nat} {R : List Blk} {v : Value} (h : Cl W R b i v) : Cl W (A ++ R) b i v := h.mono fun _ hq => List.mem_append_right _ hq
theorem Cl.appl {W : World} {A : List Blk} {b i : Nat} {R : List Blk} {v : Value} (h : Cl W R b i v) : Cl W (R ++ A) b i v := h.mono fun _ hq => List.mem_append_left _ hq
theorem Cl.nil {W : World} {b i : Nat} {R : List Blk} {v : Value} (h : Cl W [] b i v) : Cl W R b i v := h.mono fun _ hq => by cases hq
theorem Rs.mono {W : World} {L L' : List Blk} {p : Option Addr} {news : List Value} (h : Rs W L p news) (hm : ∀ q, q ∈ L → q ∈ L') : Rs W L' p news := fun j u hj => by
  obtain ⟨b, o, h1, h2⟩ := h j u hj
  exact ⟨b, o, h1, h2.mono hm⟩
/-- The source is a fresh block of just these cells. -/
theorem Rs.fresh {W : World} {L : List Blk} {b : Nat} {vs : List Value} {T : TypeId} {fr : Nat × Nat} (h : (b, Obj.cells vs.toArray T fr) ∈ L) : Rs W L (some ⟨b, 0, none⟩) vs := fun j u hj => ⟨b, 0, rfl, Cl.own h (by simpa using hj)⟩

/-! ### lists of a known length -/
theorem list1 {α : Type} {l : List α} (h : l.length = 1) : ∃ a0, l = [a0] := by
  match l, h with
  | [a0], _ => exact ⟨a0, rfl⟩
theorem list2 {α : Type} {l : List α} (h : l.length = 2) : ∃ a0 a1, l = [a0, a1] := by
  match l, h with
  | [a0, a1], _ => exact ⟨a0, a1, rfl⟩
theorem list3 {α : Type} {l : List α} (h : l.length = 3) : ∃ a0 a1 a2, l = [a0, a1, a2] := by
  match l, h with
  | [a0, a1, a2], _ => exact ⟨a0, a1, a2, rfl⟩
theorem list4 {α : Type} {l : List α} (h : l.length = 4) : ∃ a0 a1 a2 a3, l = [a0, a1, a2, a3] := by
  match l, h with
  | [a0, a1, a2, a3], _ => exact ⟨a0, a1, a2, a3, rfl⟩
theorem list5 {α : Type} {l : List α} (h : l.length = 5) : ∃ a0 a1 a2 a3 a4, l = [a0, a1, a2, a3, a4] := by
  match l, h with
  | [a0, a1, a2, a3, a4], _ => exact ⟨a0, a1, a2, a3, a4, rfl⟩
theorem list6 {α : Type} {l : List α} (h : l.length = 6) : ∃ a0 a1 a2 a3 a4 a5, l = [a0, a1, a2, a3, a4, a5] := by
  match l, h with
  | [a0, a1, a2, a3, a4, a5], _ => exact ⟨a0, a1, a2, a3, a4, a5, rfl⟩
theorem list7 {α : Type} {l : List α} (h : l.length = 7) : ∃ a0 a1 a2 a3 a4 a5 a6, l = [a0, a1, a2, a3, a4, a5, a6] := by
  match l, h with
  | [a0, a1, a2, a3, a4, a5, a6], _ => exact ⟨a0, a1, a2, a3, a4, a5, a6, rfl⟩
theorem list8 {α : Type} {l : List α} (h : l.length = 8) : ∃ a0 a1 a2 a3 a4 a5 a6 a7, l = [a0, a1, a2, a3, a4, a5, a6, a7] := by
  match l, h with
  | [a0, a1, a2, a3, a4, a5, a6, a7], _ => exact ⟨a0, a1, a2, a3, a4, a5, a6, a7, rfl⟩
theorem list9 {α : Type} {l : List α} (h : l.length = 9) : ∃ a0 a1 a2 a3 a4 a5 a6 a7 a8, l = [a0, a1, a2, a3, a4, a5, a6, a7, a8] := by
  match l, h with
  | [a0, a1, a2, a3, a4, a5, a6, a7, a8], _ => exact ⟨a0, a1, a2, a3, a4, a5, a6, a7, a8, rfl⟩
theorem list10 {α : Type} {l : List α} (h : l.length = 10) : ∃ a0 a1 a2 a3 a4 a5 a6 a7 a8 a9, l = [a0, a1, a2, a3, a4, a5, a6, a7, a8, a9] := by
  match l, h with
  | [a0, a1, a2, a3, a4, a5, a6, a7, a8, a9], _ => exact ⟨a0, a1, a2, a3, a4, a5, a6, a7, a8, a9, rfl⟩
theorem list11 {α : Type} {l : List α} (h : l.length = 11) : ∃ a0 a1 a2 a3 a4 a5 a6 a7 a8 a9 a10, l = [a0, a1, a2, a3, a4, a5, a6, a7, a8, a9, a10] := by
  match l, h with
  | [a0, a1, a2, a3, a4, a5, a6, a7, a8, a9, a10], _ => exact ⟨a0, a1, a2, a3, a4, a5, a6, a7, a8, a9, a10, rfl⟩
theorem list12 {α : Type} {l : List α} (h : l.length = 12) : ∃ a0 a1 a2 a3 a4 a5 a6 a7 a8 a9 a10 a11, l = [a0, a1, a2, a3, a4, a5, a6, a7, a8, a9, a10, a11] := by
  match l, h with
  | [a0, a1, a2, a3, a4, a5, a6, a7, a8, a9, a10, a11], _ => exact ⟨a0, a1, a2, a3, a4, a5, a6, a7, a8, a9, a10, a11, rfl⟩
theorem take_step {α : Type} {xs ys : List α} {k s : Nat} (h : (xs.drop (k * s)).take s = ys) : xs.take ((k + 1) * s) = xs.take (k * s) ++ ys := by
  rw [← h, Nat.add_mul, Nat.one_mul, List.take_add]
theorem Rs.at {W : World} {L : List Blk} {p : Option Addr} {xs : List Value} (h : Rs W L p xs) {j : Nat} (hj : j < xs.length) : ∃ b o, p = some ⟨b, o, none⟩ ∧ ∀ i u, xs[i]? = some u → Cl W L b (o + i) u := by
  obtain ⟨b, o, hp, _⟩ := h j _ (List.getElem?_eq_getElem hj)
  refine ⟨b, o, hp, fun i u hi => ?_⟩
  obtain ⟨b', o', hp', hc⟩ := h i u hi
  rw [hp] at hp'
  simp only [Option.some.injEq, Addr.mk.injEq] at hp'
  obtain ⟨rfl, rfl, _⟩ := hp'
  exact hc
theorem get_drop {α : Type} {xs ys : List α} {k s j : Nat} {u : α} (h : (xs.drop k).take s = ys) (hj : ys[j]? = some u) : xs[k + j]? = some u := by
  rw [← h, List.getElem?_take] at hj
  split at hj
  · rw [List.getElem?_drop] at hj; exact hj
  · cases hj

/-! ### rows of elements of several cells -/
theorem flat_length {α : Type} (enc : α → List Value) {s : Nat} (hs : ∀ x, (enc x).length = s) : ∀ (l : List α), (l.flatMap enc).length = l.length * s
  | [] => by simp
  | x :: r => by rw [List.flatMap_cons, List.length_append, hs, flat_length enc hs r, List.length_cons, Nat.add_mul]; omega
theorem flat_get {α : Type} (enc : α → List Value) {s : Nat} (hs : ∀ x, (enc x).length = s) : ∀ (l : List α) (k : Nat) (x : α), l[k]? = some x → ∀ j u, (enc x)[j]? = some u → (l.flatMap enc)[k * s + j]? = some u
  | [], _, _, h, _, _, _ => by cases h
  | y :: r, 0, x, h, j, u, hj => by
    simp only [List.getElem?_cons_zero, Option.some.injEq] at h
    subst h
    rw [List.flatMap_cons, Nat.zero_mul, Nat.zero_add, List.getElem?_append_left (List.getElem?_eq_some_iff.1 hj).1]; exact hj
  | y :: r, k + 1, x, h, j, u, hj => by
    simp only [List.getElem?_cons_succ] at h
    have := flat_get enc hs r k x h j u hj
    rw [List.flatMap_cons, List.getElem?_append_right (by rw [hs, Nat.add_mul]; omega), hs, ← this]
    congr 1
    rw [Nat.add_mul]; omega
theorem flat_snoc {α : Type} (enc : α → List Value) (l : List α) (k : Nat) (x : α) (h : l[k]? = some x) : (l.take (k + 1)).flatMap enc = (l.take k).flatMap enc ++ enc x := by
  rw [List.take_add_one, h]; simp
/-- The rows x of type α, each of s cells, lie at the slice p. -/
theorem Rs.row {α : Type} {W : World} {L : List Blk} {p : Option Addr} {enc : α → List Value} {s : Nat} {l : List α} (h : Rs W L p (l.flatMap enc)) (hs : ∀ x, (enc x).length = s) (h0 : 0 < s) {k : Nat} (hk : k < l.length) :
    ∃ b o, p = some ⟨b, o, none⟩ ∧ ∀ j u, (enc l[k])[j]? = some u → Cl W L b (o + k * s + j) u := by
  have hlen := flat_length enc hs l
  have hm : k * s < l.length * s := Nat.mul_lt_mul_of_pos_right hk h0
  obtain ⟨b, o, hp, hc⟩ := h.at (j := k * s) (by omega)
  refine ⟨b, o, hp, fun j u hj => ?_⟩
  rw [Nat.add_assoc]
  exact hc _ u (flat_get enc hs l k _ (List.getElem?_eq_getElem hk) j u hj)

/-- An owned slice that is not nil: its block, and what lies behind its elements. -/
theorem SlO.cut {s : Nat} {e : TypeId} {v : Value} {m : Nat} {xs : List Value} {l : List Blk} (h : SlO s e v m xs l) (hm : 0 < m) : ∃ b rest cap, v = .slice (some ⟨b, 0, none⟩) m cap ∧ m ≤ cap ∧ l = [(b, .cells (xs ++ rest).toArray e (0, 0))] := by
  rcases h with ⟨_, rfl, _⟩ | ⟨b, cs, cap, rfl, rfl, h1, h2, rfl⟩
  · omega
  · refine ⟨b, cs.toList.drop (m * s), cap, rfl, h1, ?_⟩
    rw [List.take_append_drop]
theorem Cl.pre {W : World} {b i : Nat} {T : TypeId} {fr : Nat × Nat} {vs rest : List Value} {R : List Blk} {v : Value} (h : vs[i]? = some v) : Cl W ((b, .cells (vs ++ rest).toArray T fr) :: R) b (0 + i) v :=
  Cl.own (List.Mem.head _) (by rw [Nat.zero_add]; simp [List.getElem?_append_left (List.getElem?_eq_some_iff.1 h).1, h])

/-! ### sums that fit -/
class KB (k : IntKind) (lo hi : outParam Int) : Prop where h : ∀ z, lo ≤ z → z ≤ hi → k.wrap z = z
instance : KB .i64 (-9223372036854775808) 9223372036854775807 := ⟨fun z h1 h2 => by rw [IntKind.wrap_i64]; omega⟩
instance : KB .i32 (-2147483648) 2147483647 := ⟨fun z h1 h2 => by rw [IntKind.wrap_i32]; omega⟩
instance : KB .u8 0 255 := ⟨fun z h1 h2 => by rw [IntKind.wrap_u8]; omega⟩
instance : KB .u32 0 4294967295 := ⟨fun z h1 h2 => by rw [IntKind.wrap_u32]; omega⟩
theorem wrap_u16 (n : Int) : IntKind.u16.wrap n = n % 65536 := by simp [IntKind.wrap, IntKind.bits, IntKind.signed]
theorem wrap_u64 (n : Int) : IntKind.u64.wrap n = n % 18446744073709551616 := by simp [IntKind.wrap, IntKind.bits, IntKind.signed]
instance : KB .u16 0 65535 := ⟨fun z h1 h2 => by rw [wrap_u16]; omega⟩
instance : KB .u64 0 18446744073709551615 := ⟨fun z h1 h2 => by rw [wrap_u64]; omega⟩

section
variable {P : Program} {W : World} {n : Nat} {L : List Blk} {E : List (Nat × Value)} {d : Option Nat} {t : TypeId} {pos : String} {after : Array Edge} {g : Option (Nat × Bool)} {Q : Exit → Act → World → Prop}
theorem rd_addn {T T' : Nat} {x y : Operand} {k : IntKind} {i j lo hi : Int} [hk : KB k lo hi] (hx : ev E x = some (.int k i)) (hy : ev E y = some (.int k j)) (h1 : lo ≤ i + j) (h2 : i + j ≤ hi) :
    RD P W n L E ⟨d, .binOp .add T x y T', t, pos, after, g⟩ (.int k (i + j)) := rd_cast (rd_add hx hy) (by rw [hk.h _ h1 h2])
theorem rd_subn {T T' : Nat} {x y : Operand} {k : IntKind} {i j lo hi : Int} [hk : KB k lo hi] (hx : ev E x = some (.int k i)) (hy : ev E y = some (.int k j)) (h1 : lo ≤ i - j) (h2 : i - j ≤ hi) :
    RD P W n L E ⟨d, .binOp .sub T x y T', t, pos, after, g⟩ (.int k (i - j)) := rd_cast (rd_sub hx hy) (by rw [hk.h _ h1 h2])
theorem rd_muln {T T' : Nat} {x y : Operand} {k : IntKind} {i j lo hi : Int} [hk : KB k lo hi] (hx : ev E x = some (.int k i)) (hy : ev E y = some (.int k j)) (h1 : lo ≤ i * j) (h2 : i * j ≤ hi) :
    RD P W n L E ⟨d, .binOp .mul T x y T', t, pos, after, g⟩ (.int k (i * j)) := rd_cast (rd_mul hx hy) (by rw [hk.h _ h1 h2])
theorem rd_convn {S T : Nat} {x : Operand} {k k' : IntKind} {i lo hi : Int} [hS : Ik P S k'] [hT : Ik P T k] [hk : KB k lo hi] (hx : ev E x = some (.int k' i)) (h1 : lo ≤ i) (h2 : i ≤ hi) :
    RD P W n L E ⟨d, .convert S T x, t, pos, after, g⟩ (.int k i) := rd_cast (rd_conv hx) (by rw [hk.h _ h1 h2])
theorem xc_dec {c : Operand} {x y : Code} {p : Prop} [hd : Decidable p] (hc : ev E c = some (.bool (decide p))) (h1 : p → XC P W n x Q L E) (h2 : ¬p → XC P W n y Q L E) : XC P W n (.cond c x y) Q L E :=
  xc_cond hc (fun h => h1 (of_decide_eq_true h)) (fun h => h2 (of_decide_eq_false h))
theorem xc_ndec {c : Operand} {x y : Code} {p : Prop} [hd : Decidable p] (hc : ev E c = some (.bool (!decide p))) (h1 : ¬p → XC P W n x Q L E) (h2 : p → XC P W n y Q L E) : XC P W n (.cond c x y) Q L E :=
  xc_cond hc (fun h => h1 (by simpa using h)) (fun h => h2 (by simpa using h))
theorem xo_dec {ops : Array Oper} {rest : List Oper} (t : Nat) {p : Prop} [hd : Decidable p] (ht : lk E t = some (.bool (decide p))) (h1 : p → XO P W n ops Q rest L ((t, .bool true) :: E)) (h2 : ¬p → XO P W n ops Q rest L ((t, .bool false) :: E)) : XO P W n ops Q rest L E :=
  xo_split t ht (fun h => h1 (of_decide_eq_true h)) (fun h => h2 (of_decide_eq_false h))
theorem xo_ndec {ops : Array Oper} {rest : List Oper} (t : Nat) {p : Prop} [hd : Decidable p] (ht : lk E t = some (.bool (!decide p))) (h1 : ¬p → XO P W n ops Q rest L ((t, .bool true) :: E)) (h2 : p → XO P W n ops Q rest L ((t, .bool false) :: E)) : XO P W n ops Q rest L E :=
  xo_split t ht (fun h => h1 (by simpa using h)) (fun h => h2 (by simpa using h))
theorem Inf.of {T s b : Nat} {z : Value} (h : (P.info? T).map (fun i => (i.zero, i.size, i.bytes)) = some (some z, s, b)) (hz : z.cells.size = s) : Inf P T z s b := ⟨by
  cases hi : P.info? T with
  | none => rw [hi] at h; cases h
  | some i =>
    rw [hi] at h
    simp only [Option.map_some, Option.some.injEq, Prod.mk.injEq] at h
    exact ⟨i, rfl, h.1, h.2.1, h.2.2, hz⟩⟩
theorem xq_retg' {K : Value → List Blk → Prop} {fn : Func} {v : Value} {e : Exit} {L' : List Blk} (hL : L'.Sublist L) (he : e = .ret ∨ e = .normal) (hres : ∀ a w, Env n a E → Hp W w L → (results fn a.tmps).run P w = .ok v w) (h : K v L') : XQ W n (bodyPost P fn (XP W K)) e L E := by
  refine ⟨fun a w ha hw => ?_⟩
  rcases he with rfl | rfl
  · exact ⟨ha.defers, _, hres a w ha hw, _, rfl, L', hw.sub hL, h⟩
  · exact ⟨ha.defers, _, hres a w ha hw, _, rfl, L', hw.sub hL, h⟩
/-- The result is one whole block. -/
theorem xq_retB {K : Value → List Blk → Prop} {fn : Func} {t T b m : Nat} {vs : List Value} {T' : TypeId} {fr : Nat × Nat} {e : Exit} [hA : Ta P T true] [hS : Ts P T m] (he : e = .ret ∨ e = .normal) (hr : fn.results = #[.cell t T]) (ht : lk E t = some (.pointer (some ⟨b, 0, none⟩)))
    (hk : Kn W L b (.cells vs.toArray T' fr)) (hm : vs.length = m) {L' : List Blk} (hL : L'.Sublist L) (h : K (.agg vs.toArray) L') : XQ W n (bodyPost P fn (XP W K)) e L E :=
  xq_retg' hL he (fun a w ha hw => by
    have h1 := hA.h w
    have h2 := hS.h w
    subst hm
    have hl := run_loadCells_list (P := P) w ⟨b, 0, none⟩ vs (fun j v hj => by
      rw [add_zero', Nat.zero_add]
      exact (Cl.get (L := L) ⟨_, _, _, hk, by simpa using hj⟩ hw))
    have hv := ha.val t _ ht
    simp [results, hr, Array.getD_eq_getD_getElem?, hv, asAddr, loadVar, h1, h2, hl]) h
theorem XF.mid (A : List Blk) {f : FuncId} {args : Array Value} {K : Value → List Blk → Prop} {p : Blk} {R : List Blk} (h : XF P W f args (p :: (A ++ R)) K) : XF P W f args (A ++ p :: R) K := h.perm List.perm_middle
theorem xo_mid (A : List Blk) {ops : Array Oper} {rest : List Oper} {p : Blk} {R : List Blk} (h : XO P W n ops Q rest (A ++ p :: R) E) : XO P W n ops Q rest (p :: (A ++ R)) E := xo_perm List.perm_middle.symm h
theorem xc_mid (A : List Blk) {c : Code} {p : Blk} {R : List Blk} (h : XC P W n c Q (A ++ p :: R) E) : XC P W n c Q (p :: (A ++ R)) E := xc_perm List.perm_middle.symm h
theorem xq_mid (A : List Blk) {e : Exit} {p : Blk} {R : List Blk} (h : XQ W n Q e (A ++ p :: R) E) : XQ W n Q e (p :: (A ++ R)) E := xq_perm List.perm_middle.symm h
theorem xo_up (A : List Blk) {ops : Array Oper} {rest : List Oper} {p : Blk} {R : List Blk} (h : XO P W n ops Q rest (p :: (A ++ R)) E) : XO P W n ops Q rest (A ++ p :: R) E := xo_perm List.perm_middle h
theorem xc_up (A : List Blk) {c : Code} {p : Blk} {R : List Blk} (h : XC P W n c Q (p :: (A ++ R)) E) : XC P W n c Q (A ++ p :: R) E := xc_perm List.perm_middle h
theorem xr_perm {ops : Array Oper} {M L' : List Blk} {fuel : Nat} {listed : Array Bool} (hp : L.Perm L') (h : XR P W n ops Q M fuel listed L' E) : XR P W n ops Q M fuel listed L E := .mk fun a w ha hw => h.run a w ha (hw.perm hp)
theorem xr_tail {ops : Array Oper} {M : List Blk} {fuel : Nat} {listed : Array Bool} {p : Blk} (h : XR P W n ops Q M fuel listed L E) : XR P W n ops Q M fuel listed (p :: L) E := .mk fun a w ha hw => h.run a w ha (hw.sub (List.sublist_cons_self _ _))
theorem xr_mid (A : List Blk) {ops : Array Oper} {M : List Blk} {fuel : Nat} {listed : Array Bool} {p : Blk} {R : List Blk} (h : XR P W n ops Q M fuel listed (A ++ p :: R) E) : XR P W n ops Q M fuel listed (p :: (A ++ R)) E := xr_perm List.perm_middle.symm h
theorem rd_quon {T T' : Nat} {x y : Operand} {k : IntKind} {i j lo hi : Int} [hk : KB k lo hi] (hx : ev E x = some (.int k i)) (hy : ev E y = some (.int k j)) (h0 : 0 ≤ i) (hj : 0 < j) (hh : i ≤ hi) (hl : lo ≤ 0) :
    RD P W n L E ⟨d, .binOp .quo T x y T', t, pos, after, g⟩ (.int k (i / j)) := rd_cast (rd_quo hx hy (by omega)) (by
  have h1 : i / j ≤ i := Int.ediv_le_self j h0
  have h2 : 0 ≤ i / j := Int.ediv_nonneg h0 (by omega)
  rw [Int.tdiv_eq_ediv_of_nonneg h0, hk.h _ (by omega) (by omega)])
theorem rd_remn {T T' : Nat} {x y : Operand} {k : IntKind} {i j : Int} (hx : ev E x = some (.int k i)) (hy : ev E y = some (.int k j)) (h0 : 0 ≤ i) (hj : 0 < j) :
    RD P W n L E ⟨d, .binOp .rem T x y T', t, pos, after, g⟩ (.int k (i % j)) := rd_cast (rd_rem hx hy (by omega)) (by rw [Int.tmod_eq_emod_of_nonneg h0])

/-! ### a struct is made -/
def setL (l : List Value) (o : Nat) : List Value → List Value
  | [] => l
  | v :: r => setL (l.set o v) (o + 1) r
def fillL (pl : List (Nat × Nat)) (zs : List Value) : List (Nat × Value) → List Value
  | [] => zs
  | (i, v) :: r => fillL pl (setL zs (pl.getD i (0, 0)).1 v.cells.toList) r
def fillOk (pl : List (Nat × Nat)) (m : Nat) : List (Nat × Value) → Bool
  | [] => true
  | (i, v) :: r => (match pl[i]? with
    | some (o, s) => Nat.beq v.cells.toList.length s && Nat.ble (o + s) m
    | none => false) && fillOk pl m r
class Pl (P : Program) (T : Nat) (pl : outParam (List (Nat × Nat))) : Prop where h : ∃ fs, P.underlying T = some (.struct fs) ∧ ∀ w, (fs.mapM fun f => (do pure (f.offset, ← sizeOf f.type) : Sem (Nat × Nat))).run P w = .ok pl.toArray w
def evp (E : List (Nat × Value)) : List (Nat × Operand) → Option (List (Nat × Value))
  | [] => some []
  | (i, x) :: r => match ev E x with
    | some v => (match evp E r with
      | some vs => some ((i, v) :: vs)
      | none => none)
    | none => none
theorem Env.evalp {a : Act} (h : Env n a E) : ∀ {l : List (Nat × Operand)} {vs : List (Nat × Value)}, evp E l = some vs → l.map (fun (i, x) => (i, a.eval x)) = vs
  | [], vs, hv => by cases hv; rfl
  | (i, x) :: r, vs, hv => by
    unfold evp at hv
    split at hv
    · rename_i v hx
      split at hv
      · rename_i us hr
        cases hv
        rw [List.map_cons, h.evalp hr]
        simp only [h.eval hx]
      · cases hv
    · cases hv
theorem setL_length : ∀ (vs l : List Value) (o : Nat), (setL l o vs).length = l.length
  | [], _, _ => rfl
  | v :: r, l, o => by rw [setL, setL_length r]; simp
theorem foldl_setL : ∀ (vs : List Value) (l : List Value) (o k : Nat), (vs.zipIdx k).foldl (fun cs (c, j) => cs.setIfInBounds (o + j) c) l.toArray = (setL l (o + k) vs).toArray
  | [], _, _, _ => rfl
  | v :: r, l, o, k => by
    rw [List.zipIdx_cons, List.foldl_cons, setL]
    have := foldl_setL r (l.set (o + k) v) o (k + 1)
    rw [← Nat.add_assoc] at this
    rw [← this]
    simp
theorem fill_eq (pl : List (Nat × Nat)) : ∀ (us : List (Nat × Value)) (zs : List Value), fillOk pl zs.length us = true → Instr.fill (pl.toArray[·]?) zs.toArray us = some (fillL pl zs us).toArray
  | [], zs, _ => rfl
  | (i, v) :: r, zs, h => by
    rw [fillOk, Bool.and_eq_true] at h
    obtain ⟨h1, h2⟩ := h
    cases hp : pl[i]? with
    | none => rw [hp] at h1; cases h1
    | some q =>
      obtain ⟨o, s⟩ := q
      rw [hp] at h1
      simp only [Bool.and_eq_true, Nat.beq_eq, Nat.ble_eq, Array.length_toList] at h1
      obtain ⟨e1, e2⟩ := h1
      have hp' : pl.toArray[i]? = some (o, s) := by simpa using hp
      have hg : (pl.getD i (0, 0)).1 = o := by simp [List.getD, hp]
      rw [Instr.fill, hp']
      simp only [fillL, hg]
      rw [if_neg (by simp only [ne_eq, e1, not_true_eq_false, gt_iff_lt, List.size_toArray, decide_false, Bool.false_or, decide_eq_true_eq, Bool.or_eq_true]; omega)]
      have hz : v.cells.zipIdx.foldl (fun cs (c, j) => cs.setIfInBounds (o + j) c) zs.toArray = (setL zs o v.cells.toList).toArray := by
        have := foldl_setL v.cells.toList zs o 0
        simp only [Nat.add_zero] at this
        rw [← this, ← Array.foldl_toList]
        simp
      rw [hz]
      exact fill_eq pl r (setL zs o v.cells.toList) (by rw [setL_length]; exact h2)
theorem rd_build {T : Nat} {parts : List (Nat × Operand)} {us : List (Nat × Value)} {pl : List (Nat × Nat)} {z : Value} {zs : List Value} [hP : Pl P T pl] [hI : T0 P T z] (hp : evp E parts = some us) (hz : z = .agg zs.toArray) (hf : fillOk pl zs.length us = true) :
    RD P W n L E ⟨d, .build T parts.toArray, t, pos, after, g⟩ (.agg (fillL pl zs us).toArray) := .mk fun a w ha hw => by
  obtain ⟨fs, h1, h2⟩ := hP.h
  have h0 := hI.h w
  subst hz
  have hc : (Value.agg zs.toArray).cells = zs.toArray := rfl
  have he := ha.evalp hp
  have h3 := h2 w
  have hfl := fill_eq pl us zs hf
  simp only [execOp, Instr.build, Sem.run_bind, h0, Result.andThen_ok, run_underlying h1, h3, hc, List.map_toArray, he, hfl]
  rfl
end
end Go.Proofs.Ytoolgphkfnkajaa.X
