/-
  Words of my own for walks, twenty-eighth part: cells of an owned row that begins anywhere, written. No condition; generic over the program.
-/
import Derived.Test.YtoolgphkfnkajaaX27
namespace Go.Proofs.Ytoolgphkfnkajaa.X
open Go Go.RowKit
set_option linter.unusedVariables false
set_option linter.unusedSimpArgs false
/-- Cells in a row of an own block. -/
theorem cl_sub {W : World} {L : List Blk} {b : Nat} {T : TypeId} {fr : Nat × Nat} {vs sub : List Value} (i : Nat) (h : (b, Obj.cells vs.toArray T fr) ∈ L) (hs : (vs.drop i).take sub.length = sub) : ∀ (j : Nat) (u : Value), sub[j]? = some u → Cl W L b (i + j) u := fun j u hj => by
  refine Cl.own h ?_
  rw [← hs, List.getElem?_take] at hj
  split at hj
  · rw [List.getElem?_drop] at hj
    simpa using hj
  · cases hj
section
variable {P : Program} {W : World} {n : Nat} {L : List Blk} {E : List (Nat × Value)} {Q : Exit → Act → World → Prop} {d : Option Nat} {t : TypeId} {pos : String} {after : Array Edge} {g : Option (Nat × Bool)} {K : Value → List Blk → Prop}
/-- Some cells of an owned row are written, from one of them on. -/
theorem ef_storeQs (A R : List Blk) (j : Nat) {T m s b o c cap : Nat} {x y : Operand} {vs xs : List Value} {k : Nat} {e : TypeId} {l : List Blk} {p : Option Addr} [hS : Ts P T s] (hO : SlQ m e (.slice p k cap) k xs l) (hx : ev E x = some (.pointer (some ⟨b, c, none⟩))) (hc : c = o + j) (hb : p = some ⟨b, o, none⟩) (hy : ev E y = some (.agg vs.toArray))
    (hv1 : vs.all (·.oneCell') = true) (hvs : vs.length = s) (hj : j + s ≤ k * m)
    (hL : L = A ++ (l ++ R)) (hK : ∀ l', SlQ m e (.slice p k cap) k (xs.take j ++ vs ++ xs.drop (j + s)) l' → K undef (A ++ (l' ++ R))) : EF P W n L E ⟨d, .store T x y, t, pos, after, g⟩ K := by
  have hxl := hO.len
  subst hc
  rcases hO with ⟨h1, h2, rfl, rfl⟩ | ⟨b', o', cs, cap', h1, rfl, h3, h4, h5⟩
  · subst hb
    simp only [Value.slice.injEq] at h1
    obtain ⟨h1, _⟩ := h1
    cases h1
  · subst hb
    simp only [Value.slice.injEq, Option.some.injEq, Addr.mk.injEq, true_and, and_true] at h1
    obtain ⟨⟨rfl, rfl⟩, rfl⟩ := h1
    have e2 : k * m ≤ cap * m := Nat.mul_le_mul_right _ h3
    refine ef_storeN A R hx hy hv1 hvs (by rw [hL]; rfl) (by omega) (hK [_] (.inr ⟨b, o, _, cap, rfl, rfl, h3, ?_, ?_⟩))
    · simp only [List.size_toArray, List.length_append, List.length_take, List.length_drop, Array.length_toList]
      omega
    · have hl : (cs.toList.take o).length = o := by rw [List.length_take, Array.length_toList]; omega
      have ex : cs.toList.drop o = xs ++ cs.toList.drop (o + k * m) := by
        rw [← h5, ← List.drop_drop, List.take_append_drop]
      have ea : cs.toList.take (o + j) = cs.toList.take o ++ xs.take j := by
        rw [List.take_add, ex, List.take_append_of_le_length (by omega)]
      have eb : cs.toList.drop (o + j + vs.length) = xs.drop (j + s) ++ cs.toList.drop (o + k * m) := by
        rw [hvs, Nat.add_assoc, ← List.drop_drop, ex, List.drop_append_of_le_length (by omega)]
      simp only []
      rw [ea, eb]
      simp only [List.append_assoc]
      rw [List.drop_left' hl]
      have : (xs.take j ++ (vs ++ xs.drop (j + s))).length = k * m := by
        simp only [List.length_append, List.length_take, List.length_drop, hxl]; omega
      rw [← List.append_assoc vs, ← List.append_assoc, List.take_left' this]
/-- One cell of an owned row is written. -/
theorem ef_storeQ1 (A R : List Blk) (j : Nat) {T m b o c cap : Nat} {x y : Operand} {v : Value} {xs : List Value} {k : Nat} {e : TypeId} {l : List Blk} {p : Option Addr} [hS : Ts P T 1] (hO : SlQ m e (.slice p k cap) k xs l) (hx : ev E x = some (.pointer (some ⟨b, c, none⟩))) (hc : c = o + j) (hb : p = some ⟨b, o, none⟩) (hy : ev E y = some v)
    (hv1 : v.oneCell' = true) (hj : j < k * m)
    (hL : L = A ++ (l ++ R)) (hK : ∀ l', SlQ m e (.slice p k cap) k (xs.set j v) l' → K undef (A ++ (l' ++ R))) : EF P W n L E ⟨d, .store T x y, t, pos, after, g⟩ K := by
  have hxl := hO.len
  subst hc
  rcases hO with ⟨h1, h2, rfl, rfl⟩ | ⟨b', o', cs, cap', h1, rfl, h3, h4, h5⟩
  · subst hb
    simp only [Value.slice.injEq] at h1
    obtain ⟨h1, _⟩ := h1
    cases h1
  · subst hb
    simp only [Value.slice.injEq, Option.some.injEq, Addr.mk.injEq, true_and, and_true] at h1
    obtain ⟨⟨rfl, rfl⟩, rfl⟩ := h1
    have e2 : k * m ≤ cap * m := Nat.mul_le_mul_right _ h3
    have hlt : o + j < cs.toList.length := by rw [Array.length_toList]; omega
    refine ef_store1 A R (vs := cs.toList) hx hy hv1 rfl (by rw [hL]; rfl) (List.getElem?_eq_getElem hlt) (hK [_] (.inr ⟨b, o, _, cap, rfl, rfl, h3, ?_, ?_⟩))
    · simp only [List.size_toArray, List.length_set, Array.length_toList]; exact h4
    · simp only []
      rw [← h5, List.drop_set, if_neg (by omega), List.take_set]
      congr 1; omega
/-- A few cells of a block are written; what then stands there is named. -/
theorem ef_storeW (A R : List Blk) (i : Nat) {T T' m b : Nat} {x y : Operand} {vs cs ws : List Value} [hS : Ts P T m] (hx : ev E x = some (.pointer (some ⟨b, i, none⟩))) (hy : ev E y = some (.agg vs.toArray)) (h1a : vs.all (·.oneCell') = true) (hm : vs.length = m)
    (hL : L = A ++ (b, .cells cs.toArray T' (0, 0)) :: R) (hi : i + m ≤ cs.length) (hw : cs.take i ++ vs ++ cs.drop (i + vs.length) = ws) (hk : K undef (A ++ (b, .cells ws.toArray T' (0, 0)) :: R)) : EF P W n L E ⟨d, .store T x y, t, pos, after, g⟩ K :=
  ef_storeN A R hx hy h1a hm hL (by simpa using hi) (by subst hw; simpa using hk)
theorem SlQ.pre {s : Nat} {e : TypeId} {p : Option Addr} {m c : Nat} {xs : List Value} {l : List Blk} (h : SlQ s e (.slice p m c) m xs l) (k : Nat) (hk : k ≤ m) : SlQ s e (.slice p k c) k (xs.take (k * s)) l := by
  rcases h with ⟨h1, rfl, rfl, rfl⟩ | ⟨b, o, cs, cap, h1, rfl, h3, h4, h5⟩
  · simp only [Value.slice.injEq] at h1
    obtain ⟨rfl, _, rfl⟩ := h1
    have : k = 0 := by omega
    subst this
    exact .inl ⟨rfl, rfl, by simp, rfl⟩
  · simp only [Value.slice.injEq, true_and] at h1
    obtain ⟨rfl, rfl⟩ := h1
    refine .inr ⟨b, o, cs, c, rfl, rfl, by omega, h4, ?_⟩
    rw [← h5, List.take_take, Nat.min_eq_left (Nat.mul_le_mul_right _ hk)]
/-- append, where there is room. -/
theorem ef_appendRoomQ (A R l : List Blk) {T e s bt : Nat} {z : Value} {x y : Operand} {m k c cap b o : Nat} {p : Option Addr} {xs news : List Value} [hT : Sl P T e] [hI : Inf P e z s bt]
    (hx : ev E x = some (.slice (some ⟨b, o, none⟩) m cap)) (hy : ev E y = some (.slice p k c)) (hO : SlQ s e (.slice (some ⟨b, o, none⟩) m cap) m xs l) (hL : L = A ++ (l ++ R)) (hsrc : Rs W L p news) (hk : news.length = k * s) (h1a : news.all (·.oneCell') = true) (hs : 0 < s)
    (hroom : m + k ≤ cap) (hK : ∀ l', SlQ s e (.slice (some ⟨b, o, none⟩) (m + k) cap) (m + k) (xs ++ news) l' → K (.slice (some ⟨b, o, none⟩) (m + k) cap) (A ++ (l' ++ R))) :
    EF P W n L E ⟨d, .call ⟨.builtin .append, #[x, y], #[T, T]⟩, t, pos, after, g⟩ K := by
  have hxl := hO.len
  rcases hO with ⟨h0, _⟩ | ⟨b', o', cs, cap', h0, rfl, hmc, hcs, htk⟩
  · cases h0
  simp only [Value.slice.injEq, Option.some.injEq, Addr.mk.injEq, true_and, and_true] at h0
  obtain ⟨⟨rfl, rfl⟩, rfl⟩ := h0
  have h1 : ∀ u ∈ news, u.oneCell' = true := List.all_eq_true.1 h1a
  refine ⟨fun a w ha hw => ?_⟩
  have hrun : (execOp a.eval ⟨d, .call ⟨.builtin .append, #[x, y], #[T, T]⟩, t, pos, after, g⟩).run P w = ((Builtin.append_ #[T, T] t #[.slice (some ⟨b, o, none⟩) m cap, .slice p k c]).run P w).andThen fun v w => .ok (.value v) w := by
    simp [execOp, resolve, invoke, builtin, ha.eval hx, ha.eval hy]
  rw [hrun]
  obtain ⟨i, hi1, hi2, hi3, hi4, hzz⟩ := hI.h
  subst hi3; subst hi4
  by_cases hk0 : k = 0
  · subst hk0
    have hn : news = [] := List.eq_nil_of_length_eq_zero (by simpa using hk)
    subst hn
    rw [run_append_zero (some ⟨b, o, none⟩) p m cap c w hmc]
    refine ⟨_, hw, ?_⟩
    rw [hL]
    exact hK _ (.inr ⟨b, o, cs, cap, rfl, rfl, hmc, hcs, by simpa using htk⟩)
  · have hpos : 0 < news.length := by rw [hk]; exact Nat.mul_pos (by omega) hs
    obtain ⟨b0, o0, hp, _⟩ := hsrc 0 _ (List.getElem?_eq_getElem hpos)
    subst hp
    have hnews : ∀ j u, news[j]? = some u → w.cell? ((⟨b0, o0, none⟩ : Addr).add j) = some u := fun j u hj => by
      obtain ⟨b', o', hbo, hc⟩ := hsrc j u hj
      simp only [Option.some.injEq, Addr.mk.injEq] at hbo
      obtain ⟨rfl, rfl, _⟩ := hbo
      rw [add_zero']; exact hc.get hw
    have hw2 := hw
    rw [hL] at hw2
    have hmk : (m + k) * i.size ≤ cap * i.size := Nat.mul_le_mul_right _ hroom
    rw [Nat.add_mul] at hmk
    have hfit' : o + m * i.size + news.length ≤ cs.size := by rw [hk]; omega
    have hr := run_append_roomAt (P := P) w T t e i hT.h hi1 b o m cap cs hw2.mid ⟨b0, o0, none⟩ k c news hk hnews h1 hroom hfit'
    rw [hr]
    refine ⟨_, hw2.turnAt rfl rfl rfl (setRow_heap w b cs _ e (0, 0) hw2.mid) (fun q hq => setRow_other w b q _ hq), hK [(b, .cells (cs.toList.take (o + m * i.size) ++ news ++ cs.toList.drop (o + m * i.size + news.length)).toArray e (0, 0))] (.inr ⟨b, o, _, cap, rfl, rfl, hroom, ?_, ?_⟩)⟩
    · simp only [List.size_toArray, List.length_append, List.length_take, List.length_drop, Array.length_toList]
      omega
    · rw [Nat.add_mul, ← hk]
      exact take_mid _ _ _ _ _ htk hxl (by rw [Array.length_toList]; omega)
/-- What lies behind an owned row is cleared. -/
theorem ef_clearQ (A R l : List Blk) {T e s bt : Nat} {z : Value} {x : Operand} {m k cap b o : Nat} {xs : List Value} [hT : Sl P T e] [hI : Inf P e z s bt]
    (hO : SlQ s e (.slice (some ⟨b, o, none⟩) k cap) k xs l) (hx : ev E x = some (.slice (slp (some ⟨b, o, none⟩) cap k s) m (cap - k))) (hL : L = A ++ (l ++ R)) (hm : 0 < m) (hfit : k + m ≤ cap) (hz1 : z.cells.all (·.oneCell') = true)
    (hK : ∀ l', SlQ s e (.slice (some ⟨b, o, none⟩) k cap) k xs l' → K (.tuple #[]) (A ++ (l' ++ R))) : EF P W n L E ⟨d, .call ⟨.builtin .clear, #[x], #[T]⟩, t, pos, after, g⟩ K := by
  rcases hO with ⟨h0, _⟩ | ⟨b', o', cs, cap', h0, rfl, hmc, hcs, htk⟩
  · cases h0
  simp only [Value.slice.injEq, Option.some.injEq, Addr.mk.injEq, true_and, and_true] at h0
  obtain ⟨⟨rfl, rfl⟩, rfl⟩ := h0
  have hsp : slp (some ⟨b, o, none⟩) cap k s = some ⟨b, o + k * s, none⟩ := by
    unfold slp; rw [if_neg (by omega), Option.map_some, add_zero']
  rw [hsp] at hx
  have e2 : (k + m) * s ≤ cap * s := Nat.mul_le_mul_right _ hfit
  rw [Nat.add_mul] at e2
  refine ef_clear A R (s := s) hx (by rw [hL]; rfl) hm (by omega) hz1 fun cs' hc1 hc2 => hK [_] (.inr ⟨b, o, cs', cap, rfl, rfl, hmc, by omega, ?_⟩)
  have e3 : (cs'.toList.drop o).take (k * s) = ((cs'.toList.take (o + k * s)).drop o) := by
    rw [List.drop_take, Nat.add_sub_cancel_left]
  have e4 : (cs.toList.drop o).take (k * s) = ((cs.toList.take (o + k * s)).drop o) := by
    rw [List.drop_take, Nat.add_sub_cancel_left]
  rw [e3, hc2, ← e4, htk]
/-- append, its answer opened. -/
theorem ef_appendQS (A R l : List Blk) {T e s bt : Nat} {z : Value} {x y : Operand} {v : Value} {m k c : Nat} {p : Option Addr} {xs news : List Value} [hT : Sl P T e] [hI : Inf P e z s bt]
    (hx : ev E x = some v) (hy : ev E y = some (.slice p k c)) (hO : SlQ s e v m xs l) (hL : L = A ++ (l ++ R)) (hsrc : Rs W L p news) (hk : news.length = k * s) (h1a : news.all (·.oneCell') = true) (hs : 0 < s)
    (hfit : (m + k) * bt ≤ 140737488355328) (hsm : m + k ≤ 9223372036854775807) (hK : ∀ s' k' l', SlQ s e (.slice s' (m + k) k') (m + k) (xs ++ news) l' → m + k ≤ k' → K (.slice s' (m + k) k') (A ++ (l' ++ R))) :
    EF P W n L E ⟨d, .call ⟨.builtin .append, #[x, y], #[T, T]⟩, t, pos, after, g⟩ K :=
  ef_appendQ A R l hx hy hO hL hsrc hk h1a hs hfit hsm fun v' l' h => by
    obtain ⟨s', k', rfl, h', hc⟩ := h.opn
    exact hK s' k' l' h' hc
end
end Go.Proofs.Ytoolgphkfnkajaa.X
