/-
  Words of my own for walks, twenty-sixth part: an owned row that begins anywhere in its block. No condition; generic over the program.
-/
import Derived.Test.YtoolgphkfnkajaaX25
import Derived.Test.YtoolgphkfnkajaaX23
import Derived.Test.YtoolgphkfnkajaaX19
namespace Go.Proofs.Ytoolgphkfnkajaa.X
open Go Go.RowKit
set_option linter.unusedVariables false
set_option linter.unusedSimpArgs false
/-- An owned row, from a place of its block on. -/
def SlQ (s : Nat) (e : TypeId) (v : Value) (m : Nat) (xs : List Value) (l : List Blk) : Prop :=
  (v = .slice none 0 0 ∧ m = 0 ∧ xs = [] ∧ l = []) ∨
  ∃ b o cs cap, v = .slice (some ⟨b, o, none⟩) m cap ∧ l = [(b, .cells cs e (0, 0))] ∧ m ≤ cap ∧ o + cap * s ≤ cs.size ∧ (cs.toList.drop o).take (m * s) = xs
theorem SlQ.nil {s : Nat} {e : TypeId} : SlQ s e (.slice none 0 0) 0 [] [] := .inl ⟨rfl, rfl, rfl, rfl⟩
theorem SlO.q {s : Nat} {e : TypeId} {v : Value} {m : Nat} {xs : List Value} {l : List Blk} (h : SlO s e v m xs l) : SlQ s e v m xs l := by
  rcases h with h | ⟨b, cs, cap, h1, h2, h3, h4, h5⟩
  · exact .inl h
  · exact .inr ⟨b, 0, cs, cap, h1, h2, h3, by omega, by simpa using h5⟩
theorem SlQ.len {s : Nat} {e : TypeId} {v : Value} {m : Nat} {xs : List Value} {l : List Blk} (h : SlQ s e v m xs l) : xs.length = m * s := by
  rcases h with ⟨_, rfl, rfl, _⟩ | ⟨b, o, cs, cap, h1, h2, h3, h4, h5⟩
  · simp
  · rw [← h5, List.length_take, List.length_drop, Array.length_toList]
    have : m * s ≤ cap * s := Nat.mul_le_mul_right _ h3
    omega
theorem SlQ.opn {s : Nat} {e : TypeId} {v : Value} {m : Nat} {xs : List Value} {l : List Blk} (h : SlQ s e v m xs l) : ∃ p c, v = .slice p m c ∧ SlQ s e (.slice p m c) m xs l ∧ m ≤ c := by
  have h' := h
  rcases h with ⟨rfl, rfl, rfl, rfl⟩ | ⟨b, o, cs, cap, h1, h2, h3, h4, h5⟩
  · exact ⟨none, 0, rfl, h', Nat.le_refl _⟩
  · exact ⟨_, cap, h1, h1 ▸ h', h3⟩
theorem SlQ.rs {W : World} {L : List Blk} {s : Nat} {e : TypeId} {p : Option Addr} {m c : Nat} {xs : List Value} {l : List Blk} (h : SlQ s e (.slice p m c) m xs l) (hl : ∀ q, q ∈ l → q ∈ L) : Rs W L p xs := by
  rcases h with ⟨_, _, rfl, _⟩ | ⟨b, o, cs, cap, h1, rfl, h3, h4, h5⟩
  · exact Rs.nil
  · intro j u hj
    simp only [Value.slice.injEq] at h1
    refine ⟨b, o, h1.1, Cl.own (hl _ (List.mem_singleton.2 rfl)) ?_⟩
    rw [← h5, List.getElem?_take] at hj
    split at hj
    · rw [List.getElem?_drop] at hj
      simpa using hj
    · cases hj
theorem SlQ.rsl {W : World} {s : Nat} {e : TypeId} {p : Option Addr} {m c : Nat} {xs : List Value} {l R : List Blk} (h : SlQ s e (.slice p m c) m xs l) : Rs W (l ++ R) p xs := h.rs fun _ hq => List.mem_append_left _ hq
/-- The row behind its first elements. -/
theorem SlQ.cut {s : Nat} {e : TypeId} {p : Option Addr} {m c : Nat} {xs : List Value} {l : List Blk} (h : SlQ s e (.slice p m c) m xs l) (k : Nat) (hk : k ≤ m) :
    SlQ s e (.slice (slp p c k s) (m - k) (c - k)) (m - k) (xs.drop (k * s)) l := by
  rcases h with ⟨h1, rfl, rfl, rfl⟩ | ⟨b, o, cs, cap, h1, rfl, h3, h4, h5⟩
  · simp only [Value.slice.injEq] at h1
    obtain ⟨rfl, _, rfl⟩ := h1
    have : k = 0 := by omega
    subst this
    exact .inl ⟨by unfold slp; simp, rfl, by simp, rfl⟩
  · simp only [Value.slice.injEq, true_and] at h1
    obtain ⟨rfl, rfl⟩ := h1
    unfold slp
    split
    · rename_i hc
      have : m - k = 0 := by omega
      refine .inr ⟨b, o, cs, c - k, rfl, rfl, by omega, ?_, ?_⟩
      · have : (c - k) * s ≤ c * s := Nat.mul_le_mul_right _ (by omega)
        omega
      · rw [this, Nat.zero_mul, List.take_zero, ← h5, List.drop_eq_nil_of_le]
        rw [List.length_take]
        have : m * s ≤ k * s := Nat.mul_le_mul_right _ (by omega)
        omega
    · refine .inr ⟨b, o + k * s, cs, c - k, by rw [Option.map_some, add_zero'], rfl, by omega, ?_, ?_⟩
      · have : (c - k) * s + k * s = c * s := by rw [← Nat.add_mul]; congr 1; omega
        omega
      · rw [← h5, List.drop_take, List.drop_drop, ← Nat.sub_mul]
section
variable {P : Program} (w : World)
theorem run_append_roomAt (t ty e : TypeId) (i : TypeInfo) (ht : P.underlying t = some (.slice e)) (hi : P.info? e = some i)
    (b off sLen sCap : Nat) (cur : Array Value) (hg : w.heap[b]? = some (.cells cur e (0, 0))) (a : Addr) (m c : Nat) (news : List Value) (hl : news.length = m * i.size) (hnews : ∀ j u, news[j]? = some u → w.cell? (a.add j) = some u) (h1 : ∀ u ∈ news, u.oneCell' = true)
    (hroom : sLen + m ≤ sCap) (hfit : off + sLen * i.size + news.length ≤ cur.size) :
    (Builtin.append_ #[t, t] ty #[.slice (some ⟨b, off, none⟩) sLen sCap, .slice (some a) m c]).run P w = .ok (.slice (some ⟨b, off, none⟩) (sLen + m) sCap) (w.setRow b (cur.toList.take (off + sLen * i.size) ++ news ++ cur.toList.drop (off + sLen * i.size + news.length)).toArray) := by
  have hfc := run_firstCells_some (P := P) w i.size m a m c news hl hnews
  have hst := run_storeCells_at P b (off + sLen * i.size) e news 0 cur w hg (by omega) h1
  simp only [Nat.add_zero] at hst
  simp [Builtin.append_, run_underlying ht, sizeOf, typeInfo, hi, Builtin.lenOf, hroom, hfc, Addr.add_lit, hst]
end
theorem take_mid {α : Type} (cs : List α) (o n : Nat) (xs news : List α) (hx : (cs.drop o).take n = xs) (hn : xs.length = n) (ho : o + n ≤ cs.length) :
    ((cs.take (o + n) ++ news ++ cs.drop (o + n + news.length)).drop o).take (n + news.length) = xs ++ news := by
  have e : cs.take (o + n) = cs.take o ++ xs := by rw [List.take_add, hx]
  have hl : (cs.take o).length = o := by rw [List.length_take]; omega
  rw [e, List.append_assoc, List.append_assoc, List.drop_left' hl, ← List.append_assoc, List.take_left' (by rw [List.length_append, hn])]
section
variable {P : Program} {W : World} {n : Nat} {L : List Blk} {E : List (Nat × Value)} {Q : Exit → Act → World → Prop} {d : Option Nat} {t : TypeId} {pos : String} {after : Array Edge} {g : Option (Nat × Bool)} {K : Value → List Blk → Prop}
theorem ef_appendQ (A R l : List Blk) {T e s bt : Nat} {z : Value} {x y : Operand} {v : Value} {m k c : Nat} {p : Option Addr} {xs news : List Value} [hT : Sl P T e] [hI : Inf P e z s bt]
    (hx : ev E x = some v) (hy : ev E y = some (.slice p k c)) (hO : SlQ s e v m xs l) (hL : L = A ++ (l ++ R)) (hsrc : Rs W L p news) (hk : news.length = k * s) (h1a : news.all (·.oneCell') = true) (hs : 0 < s)
    (hfit : (m + k) * bt ≤ 140737488355328) (hsm : m + k ≤ 9223372036854775807) (hK : ∀ v' l', SlQ s e v' (m + k) (xs ++ news) l' → K v' (A ++ (l' ++ R))) :
    EF P W n L E ⟨d, .call ⟨.builtin .append, #[x, y], #[T, T]⟩, t, pos, after, g⟩ K := by
  have hxl := hO.len
  rcases hO with ⟨rfl, rfl, rfl, rfl⟩ | ⟨b, o, cs, cap, rfl, rfl, hmc, hcs, htk⟩
  · exact ef_append A R [] hx hy SlO.nil hL hsrc hk h1a hs hfit hsm fun v' l' h => hK v' l' h.q
  have h1 : ∀ u ∈ news, u.oneCell' = true := List.all_eq_true.1 h1a
  refine ⟨fun a w ha hw => ?_⟩
  have hrun : (execOp a.eval ⟨d, .call ⟨.builtin .append, #[x, y], #[T, T]⟩, t, pos, after, g⟩).run P w = ((Builtin.append_ #[T, T] t #[.slice (some ⟨b, o, none⟩) m cap, .slice p k c]).run P w).andThen fun v w => .ok (.value v) w := by
    simp [execOp, resolve, invoke, builtin, ha.eval hx, ha.eval hy]
  rw [hrun]
  obtain ⟨i, hi1, hi2, hi3, hi4, hzz⟩ := hI.h
  subst hi3; subst hi4
  by_cases hk0 : k = 0
  · subst hk0
    have hn : news = [] := List.eq_nil_of_length_eq_zero (by simpa using hk)
    subst hn
    rw [run_append_zero (some ⟨b, o, none⟩) p m cap c w hmc]
    refine ⟨_, hw, ?_⟩
    rw [hL]
    exact hK _ _ (.inr ⟨b, o, cs, cap, rfl, rfl, hmc, hcs, by simpa using htk⟩)
  · have hpos : 0 < news.length := by rw [hk]; exact Nat.mul_pos (by omega) hs
    obtain ⟨b0, o0, hp, _⟩ := hsrc 0 _ (List.getElem?_eq_getElem hpos)
    subst hp
    have hnews : ∀ (w' : World), Hp W w' L → ∀ j u, news[j]? = some u → w'.cell? ((⟨b0, o0, none⟩ : Addr).add j) = some u := fun w' hw' j u hj => by
      obtain ⟨b', o', hbo, hc⟩ := hsrc j u hj
      simp only [Option.some.injEq, Addr.mk.injEq] at hbo
      obtain ⟨rfl, rfl, _⟩ := hbo
      rw [add_zero']; exact hc.get hw'
    have hw2 := hw
    rw [hL] at hw2
    by_cases hroom : m + k ≤ cap
    · have hmk : (m + k) * i.size ≤ cap * i.size := Nat.mul_le_mul_right _ hroom
      rw [Nat.add_mul] at hmk
      have hfit' : o + m * i.size + news.length ≤ cs.size := by rw [hk]; omega
      have hr := run_append_roomAt (P := P) w T t e i hT.h hi1 b o m cap cs hw2.mid ⟨b0, o0, none⟩ k c news hk (hnews w hw) h1 hroom hfit'
      rw [hr]
      refine ⟨_, hw2.turnAt rfl rfl rfl (setRow_heap w b cs _ e (0, 0) hw2.mid) (fun q hq => setRow_other w b q _ hq), hK _ [(b, .cells (cs.toList.take (o + m * i.size) ++ news ++ cs.toList.drop (o + m * i.size + news.length)).toArray e (0, 0))] (.inr ⟨b, o, _, cap, rfl, rfl, hroom, ?_, ?_⟩)⟩
      · simp only [List.size_toArray, List.length_append, List.length_take, List.length_drop, Array.length_toList]
        omega
      · rw [Nat.add_mul, ← hk]
        exact take_mid _ _ _ _ _ htk hxl (by rw [Array.length_toList]; omega)
    · have holds : ∀ j u, xs[j]? = some u → w.cell? ((⟨b, o, none⟩ : Addr).add j) = some u := fun j u hj => by
        rw [add_zero']
        have hR : Rs W L (some ⟨b, o, none⟩) xs := SlQ.rs (s := i.size) (e := e) (m := m) (c := cap) (l := [(b, .cells cs e (0, 0))]) (.inr ⟨b, o, cs, cap, rfl, rfl, hmc, hcs, htk⟩) (by rw [hL]; simp)
        obtain ⟨b', o', hbo, hc⟩ := hR j u hj
        simp only [Option.some.injEq, Addr.mk.injEq] at hbo
        obtain ⟨rfl, rfl, _⟩ := hbo
        exact hc.get hw
      have hr := run_append_grow (P := P) w T t e i z hT.h hi1 hi2 ⟨b, o, none⟩ m cap xs hxl holds ⟨b0, o0, none⟩ k c news hk (hnews w hw) (by omega) (by omega) (growslice_fits (by omega) hfit)
      rw [hr]
      have hge := grownCap_ge w (m + k) cap e
      have hO' : SlO i.size e (.slice (some ⟨w.heap.size, 0, none⟩) (m + k) (grownCap w (m + k) cap e)) (m + k) (xs ++ news) [(w.heap.size, .cells (xs.toArray ++ news.toArray ++ Builtin.zeroCells z.cells (grownCap w (m + k) cap e - (m + k))) e (0, 0))] := by
        refine .inr ⟨w.heap.size, _, grownCap w (m + k) cap e, rfl, rfl, by omega, ?_, ?_⟩
        · simp only [Array.size_append, List.size_toArray, size_zeroCells, hk, hxl]
          rw [hzz, ← Nat.add_mul, ← Nat.add_mul]
          congr 1
          omega
        · have : (m + k) * i.size = (xs ++ news).length := by rw [List.length_append, hxl, hk, Nat.add_mul]
          rw [this]
          simp only [Array.toList_append, List.append_assoc]
          rw [← List.append_assoc]
          exact List.take_left
      refine ⟨_, ((hw2.drew.alloc _).sub (L' := (w.heap.size, .cells (xs.toArray ++ news.toArray ++ Builtin.zeroCells z.cells (grownCap w (m + k) cap e - (m + k))) e (0, 0)) :: (A ++ R)) ?_).perm ?_, hK _ _ hO'.q⟩
      · refine List.Sublist.cons_cons _ ?_
        exact (List.Sublist.refl A).append (by simp)
      · simp only [List.singleton_append]
        exact List.perm_middle.symm
/-- One element of an owned row is written. -/
theorem ef_storeQ (A R : List Blk) {T m b o i cap : Nat} {x y : Operand} {v : Value} {xs : List Value} {k : Nat} {e : TypeId} {l : List Blk} {p : Option Addr} [hS : Ts P T m] (hO : SlQ m e (.slice p k cap) k xs l) (hx : ev E x = some (.pointer (some ⟨b, o + i * m, none⟩))) (hb : p = some ⟨b, o, none⟩) (hik : i < k) {vs : List Value} (hy : ev E y = some (.agg vs.toArray))
    (hv1 : vs.all (·.oneCell') = true) (hvm : vs.length = m)
    (hL : L = A ++ (l ++ R)) (hK : ∀ l', SlQ m e (.slice p k cap) k (xs.take (i * m) ++ vs ++ xs.drop ((i + 1) * m)) l' → K undef (A ++ (l' ++ R))) : EF P W n L E ⟨d, .store T x y, t, pos, after, g⟩ K := by
  have hxl := hO.len
  rcases hO with ⟨h1, rfl, rfl, rfl⟩ | ⟨b', o', cs, cap', h1, rfl, h3, h4, h5⟩
  · omega
  · subst hb
    simp only [Value.slice.injEq, Option.some.injEq, Addr.mk.injEq, true_and, and_true] at h1
    obtain ⟨⟨rfl, rfl⟩, rfl⟩ := h1
    have e1 : (i + 1) * m ≤ k * m := Nat.mul_le_mul_right _ (by omega)
    have e2 : k * m ≤ cap * m := Nat.mul_le_mul_right _ h3
    have e3 : (i + 1) * m = i * m + m := by rw [Nat.add_mul, Nat.one_mul]
    refine ef_storeN A R hx hy hv1 hvm (by rw [hL]; rfl) (by omega) (hK [_] (.inr ⟨b, o, _, cap, rfl, rfl, h3, ?_, ?_⟩))
    · simp only [List.size_toArray, List.length_append, List.length_take, List.length_drop, Array.length_toList]
      omega
    · have hl : (cs.toList.take o).length = o := by rw [List.length_take, Array.length_toList]; omega
      have ex : cs.toList.drop o = xs ++ cs.toList.drop (o + k * m) := by
        rw [← h5, ← List.drop_drop, List.take_append_drop]
      have ea : cs.toList.take (o + i * m) = cs.toList.take o ++ xs.take (i * m) := by
        rw [List.take_add, ex, List.take_append_of_le_length (by omega)]
      have eb : cs.toList.drop (o + i * m + vs.length) = xs.drop ((i + 1) * m) ++ cs.toList.drop (o + k * m) := by
        rw [hvm, Nat.add_assoc, ← e3, ← List.drop_drop, ex, List.drop_append_of_le_length (by omega)]
      simp only []
      rw [ea, eb]
      simp only [List.append_assoc]
      rw [List.drop_left' hl]
      have : (xs.take (i * m) ++ (vs ++ xs.drop ((i + 1) * m))).length = k * m := by
        simp only [List.length_append, List.length_take, List.length_drop, hxl]; omega
      rw [← List.append_assoc vs, ← List.append_assoc, List.take_left' this]
end
end Go.Proofs.Ytoolgphkfnkajaa.X
