/-
  Words of my own for walks, twenty-first part: noughts that are appended. No condition; generic over the program.
-/
import Derived.Test.YtohlaabclifbfaaX20
namespace Go.Proofs.Ytohlaabclifbfaa.X
open Go Go.RowKit
set_option linter.unusedVariables false
set_option linter.unusedSimpArgs false
theorem zeros_one (v : Value) (k : Nat) : Builtin.zeroCells #[v] k = (List.replicate k v).toArray := by
  apply Array.toList_inj.1
  unfold Builtin.zeroCells
  rw [Array.toList_map, Array.toList_range]
  apply List.ext_getElem
  · simp
  · intro i h1 h2
    simp only [List.getElem_map, List.getElem_range, List.getElem_replicate]
    simp [Nat.mod_one]
section
variable {P : Program} (w : World)
theorem run_appendZ_room (t tn ty e : TypeId) (i : TypeInfo) (z v : Value) (kn kx : IntKind) (ht : P.underlying t = some (.slice e)) (htn : P.underlying tn = some (.int kn)) (hi : P.info? e = some i) (hz : i.zero = some z) (hs : i.size = 1) (hzc : z.cells = #[v]) (h1 : v.oneCell' = true)
    (g sLen sCap : Nat) (cur : Array Value) (hg : w.heap[g]? = some (.cells cur e (0, 0))) (m : Nat) (h0 : 0 < m) (h63 : (m : Int) ≤ 9223372036854775807) (h48 : m * i.bytes ≤ 281474976710656)
    (hroom : sLen + m ≤ sCap) (hfit : sLen + m ≤ cur.size) :
    (Builtin.append_ #[t, tn] ty #[.slice (some ⟨g, 0, none⟩) sLen sCap, .int kx m]).run P w =
      .ok (.slice (some ⟨g, 0, none⟩) (sLen + m) sCap) (w.setRow g (cur.toList.take sLen ++ List.replicate m v ++ cur.toList.drop (sLen + m)).toArray) := by
  have hw : IntKind.i64.wrap (m : Int) = m := by rw [IntKind.wrap_i64]; omega
  have h48i : ¬ (281474976710656 < (m : Int) * (i.bytes : Int)) := by rw [← Int.natCast_mul]; omega
  have hneg : ¬ ((m : Int) < 0) := by omega
  have hns : ¬ (m = 0) := by omega
  have hst := run_storeCells_at P g sLen e (List.replicate m v) 0 cur w hg (by simp; omega) (fun u hu => by rw [List.eq_of_mem_replicate hu]; exact h1)
  simp only [Nat.add_zero, List.length_replicate] at hst
  simp [Builtin.append_, run_underlying ht, run_underlying htn, sizeOf, typeInfo, zeroValue, hi, hz, hs, asInt, asIntOf, hw, hneg, hns, h48i, hroom, Addr.add_lit, hzc, zeros_one, hst]
theorem run_appendZ_nil (t tn ty e : TypeId) (i : TypeInfo) (z : Value) (kn kx : IntKind) (ht : P.underlying t = some (.slice e)) (htn : P.underlying tn = some (.int kn)) (hi : P.info? e = some i) (hz : i.zero = some z)
    (n : Nat) (h0 : 0 < n) (hs : 0 < i.size) (h63 : (n : Int) ≤ 9223372036854775807) (h48 : n * i.bytes ≤ 281474976710656) :
    (Builtin.append_ #[t, tn] ty #[.slice none 0 0, .int kx n]).run P w =
      .ok (.slice (some ⟨w.heap.size, 0, none⟩) n (grownCap w n 0 e)) (w.drew.alloc (.cells (Builtin.zeroCells z.cells n ++ Builtin.zeroCells z.cells (grownCap w n 0 e - n)) e)) := by
  have hn : n ≠ 0 := by omega
  have hw : IntKind.i64.wrap (n : Int) = n := by rw [IntKind.wrap_i64]; omega
  have h63' : ¬ (9223372036854775807 < (n : Int)) := by omega
  have h48' : ¬ (281474976710656 < Builtin.nextslicecap n 0 * i.bytes) := by rw [nextslicecap_zero h0]; omega
  have h48i : ¬ (281474976710656 < (n : Int) * (i.bytes : Int)) := by rw [← Int.natCast_mul]; omega
  have hneg : ¬ ((n : Int) < 0) := by omega
  have hns : ¬ (n * i.size = 0) := Nat.mul_ne_zero hn (by omega)
  simp [Builtin.append_, run_underlying ht, run_underlying htn, sizeOf, typeInfo, zeroValue, hi, hz, asInt, asIntOf, hw, hn, hneg, hns, h63', h48', h48i, Question.forced, run_firstCells_none, newRow, grownCap]
theorem run_appendZ_zero (t tn ty e : TypeId) (i : TypeInfo) (kn kx : IntKind) (ht : P.underlying t = some (.slice e)) (htn : P.underlying tn = some (.int kn)) (hi : P.info? e = some i) (p : Option Addr) (m cap : Nat) (hm : m ≤ cap) :
    (Builtin.append_ #[t, tn] ty #[.slice p m cap, .int kx 0]).run P w = .ok (.slice p m cap) w := by
  have hw : IntKind.i64.wrap (0 : Int) = 0 := by decide
  cases p <;> simp [Builtin.append_, run_underlying ht, run_underlying htn, sizeOf, typeInfo, hi, asInt, asIntOf, hw, hm, storeCells]
theorem run_appendZ_grow (t tn ty e : TypeId) (i : TypeInfo) (z : Value) (kn kx : IntKind) (ht : P.underlying t = some (.slice e)) (htn : P.underlying tn = some (.int kn)) (hi : P.info? e = some i) (hz : i.zero = some z)
    (b : Addr) (sLen sCap : Nat) (olds : List Value) (hlo : olds.length = sLen * i.size) (holds : ∀ j v, olds[j]? = some v → w.cell? (b.add j) = some v)
    (n : Nat) (h0 : 0 < n) (hs : 0 < i.size) (hg : sCap < sLen + n) (h63 : ((sLen + n : Nat) : Int) ≤ 9223372036854775807) (h48 : n * i.bytes ≤ 281474976710656) (hfit : Builtin.nextslicecap (sLen + n) sCap * i.bytes ≤ 281474976710656) :
    (Builtin.append_ #[t, tn] ty #[.slice (some b) sLen sCap, .int kx n]).run P w =
      .ok (.slice (some ⟨w.heap.size, 0, none⟩) (sLen + n) (grownCap w (sLen + n) sCap e))
        (w.drew.alloc (.cells (olds.toArray ++ Builtin.zeroCells z.cells n ++ Builtin.zeroCells z.cells (grownCap w (sLen + n) sCap e - (sLen + n))) e)) := by
  have hn : ¬ (sLen + n ≤ sCap) := by omega
  have hw : IntKind.i64.wrap (n : Int) = n := by rw [IntKind.wrap_i64]; omega
  have h63' : ¬ (9223372036854775807 < ((sLen : Int) + (n : Int))) := by omega
  have h48' : ¬ (281474976710656 < Builtin.nextslicecap (sLen + n) sCap * i.bytes) := by omega
  have h48i : ¬ (281474976710656 < (n : Int) * (i.bytes : Int)) := by rw [← Int.natCast_mul]; omega
  have hneg : ¬ ((n : Int) < 0) := by omega
  have hns : ¬ (n * i.size = 0) := Nat.mul_ne_zero (by omega) (by omega)
  have hfo := run_firstCells_some (P := P) w.drew i.size sLen b sLen sCap olds hlo (by simpa using holds)
  simp [Builtin.append_, run_underlying ht, run_underlying htn, sizeOf, typeInfo, zeroValue, hi, hz, asInt, asIntOf, hw, hn, hneg, hns, h63', h48', h48i, Question.forced, hfo, newRow, grownCap]
end
section
variable {P : Program} {W : World} {n : Nat} {L : List Blk} {E : List (Nat × Value)} {d : Option Nat} {t : TypeId} {pos : String} {after : Array Edge} {g : Option (Nat × Bool)} {K : Value → List Blk → Prop}
/-- Noughts are appended to an owned slice of cells. -/
theorem ef_appendZ (A R l : List Blk) {T T2 e bt : Nat} {z v0 : Value} {kn kx : IntKind} {x y : Operand} {v : Value} {m : Nat} {i : Int} (k : Nat) {xs : List Value} [hT : Sl P T e] [hT2 : Ik P T2 kn] [hI : Inf P e z 1 bt]
    (hx : ev E x = some v) (hy : ev E y = some (.int kx i)) (hik : i = k) (hO : SlO 1 e v m xs l) (hL : L = A ++ (l ++ R)) (hzc : z.cells = #[v0]) (h1 : v0.oneCell' = true)
    (hfit : (m + k) * bt ≤ 140737488355328) (hsm : m + k ≤ 9223372036854775807) (hK : ∀ q c' l', SlO 1 e (.slice q (m + k) c') (m + k) (xs ++ List.replicate k v0) l' → m + k ≤ c' → K (.slice q (m + k) c') (A ++ (l' ++ R))) :
    EF P W n L E ⟨d, .call ⟨.builtin .append, #[x, y], #[T, T2]⟩, t, pos, after, g⟩ K := by
  subst hik
  obtain ⟨p0, c0, rfl, hO, hmc0⟩ := hO.opn
  refine ⟨fun a w ha hw => ?_⟩
  have hrun : (execOp a.eval ⟨d, .call ⟨.builtin .append, #[x, y], #[T, T2]⟩, t, pos, after, g⟩).run P w = ((Builtin.append_ #[T, T2] t #[.slice p0 m c0, .int kx (k : Int)]).run P w).andThen fun v w => .ok (.value v) w := by
    simp [execOp, resolve, invoke, builtin, ha.eval hx, ha.eval hy]
  rw [hrun]
  obtain ⟨i, hi1, hi2, hi3, hi4, hzz⟩ := hI.h
  subst hi4
  have hkb : k * i.bytes ≤ 281474976710656 := by
    have : k * i.bytes ≤ (m + k) * i.bytes := Nat.mul_le_mul_right _ (by omega)
    omega
  by_cases hk0 : k = 0
  · subst hk0
    rw [show ((0 : Nat) : Int) = 0 from rfl, run_appendZ_zero w T T2 t e i kn kx hT.h hT2.h hi1 p0 m c0 hmc0]
    refine ⟨_, hw, ?_⟩
    rw [hL]
    exact hK p0 c0 l (by simpa using hO) (by omega)
  · rcases hO with ⟨he, rfl, rfl, rfl⟩ | ⟨b, cs, cap, he, rfl, hmc, hcs, htk⟩
    · simp only [Value.slice.injEq] at he
      obtain ⟨rfl, _, rfl⟩ := he
      have hr := run_appendZ_nil (P := P) w T T2 t e i z kn kx hT.h hT2.h hi1 hi2 k (by omega) (by omega) (by omega) hkb
      rw [hr]
      have hge := grownCap_ge w k 0 e
      have hcap : 0 + k ≤ grownCap w k 0 e := by omega
      have hK' := hK (some ⟨w.heap.size, 0, none⟩) (grownCap w k 0 e) [(w.heap.size, .cells (Builtin.zeroCells z.cells k ++ Builtin.zeroCells z.cells (grownCap w k 0 e - k)) e (0, 0))] (.inr ⟨w.heap.size, _, grownCap w k 0 e, rfl, rfl, hcap, ?_, ?_⟩) hcap
      · refine ⟨_, (hw.drew.alloc _).perm ?_, by rw [Nat.zero_add] at hK'; exact hK'⟩
        rw [hL]
        simp only [List.nil_append, List.singleton_append]
        exact List.perm_middle.symm
      · simp only [Array.size_append, size_zeroCells, hzz, Nat.mul_one]
        omega
      · rw [hzc, zeros_one, zeros_one]
        simp only [Array.toList_append, Nat.zero_add, Nat.mul_one, List.nil_append]
        have := List.take_left (l₁ := List.replicate k v0) (l₂ := List.replicate (grownCap w k 0 e - k) v0)
        rwa [List.length_replicate] at this
    · simp only [Value.slice.injEq] at he
      obtain ⟨rfl, _, rfl⟩ := he
      rw [Nat.mul_one] at hcs htk
      have hw2 := hw
      rw [hL] at hw2
      have hlx : xs.length = m := by rw [← htk, List.length_take, Array.length_toList]; omega
      by_cases hroom : m + k ≤ c0
      · have hr := run_appendZ_room (P := P) w T T2 t e i z v0 kn kx hT.h hT2.h hi1 hi2 hi3 hzc h1 b m c0 cs hw2.mid k (by omega) (by omega) hkb hroom (by omega)
        rw [hr]
        have hK' := hK (some ⟨b, 0, none⟩) c0 [(b, .cells (cs.toList.take m ++ List.replicate k v0 ++ cs.toList.drop (m + k)).toArray e (0, 0))] (.inr ⟨b, _, c0, rfl, rfl, hroom, ?_, ?_⟩) hroom
        · exact ⟨_, hw2.turnAt rfl rfl rfl (setRow_heap w b cs _ e (0, 0) hw2.mid) (fun q hq => setRow_other w b q _ hq), hK'⟩
        · simp only [List.size_toArray, List.length_append, List.length_take, List.length_drop, List.length_replicate, Array.length_toList, Nat.mul_one]
          omega
        · rw [htk, Nat.mul_one]
          have : m + k = (xs ++ List.replicate k v0).length := by simp [hlx]
          rw [this]
          exact List.take_left
      · have holds : ∀ j u, xs[j]? = some u → w.cell? ((⟨b, 0, none⟩ : Addr).add j) = some u := fun j u hj => by
          rw [add_zero']
          rw [← htk, List.getElem?_take] at hj
          split at hj
          · simp [World.cell?, hw2.mid]; simpa using hj
          · cases hj
        have hr := run_appendZ_grow (P := P) w T T2 t e i z kn kx hT.h hT2.h hi1 hi2 ⟨b, 0, none⟩ m c0 xs (by rw [hi3]; omega) holds k (by omega) (by omega) (by omega) (by omega) hkb (growslice_fits (by omega) hfit)
        rw [hr]
        have hge := grownCap_ge w (m + k) c0 e
        have hK' := hK (some ⟨w.heap.size, 0, none⟩) (grownCap w (m + k) c0 e) [(w.heap.size, .cells (xs.toArray ++ Builtin.zeroCells z.cells k ++ Builtin.zeroCells z.cells (grownCap w (m + k) c0 e - (m + k))) e (0, 0))] (.inr ⟨w.heap.size, _, grownCap w (m + k) c0 e, rfl, rfl, hge, ?_, ?_⟩) hge
        · refine ⟨_, ((hw2.drew.alloc _).sub (L' := (w.heap.size, .cells (xs.toArray ++ Builtin.zeroCells z.cells k ++ Builtin.zeroCells z.cells (grownCap w (m + k) c0 e - (m + k))) e (0, 0)) :: (A ++ R)) ?_).perm ?_, hK'⟩
          · refine List.Sublist.cons_cons _ ?_
            exact (List.Sublist.refl A).append (by simp)
          · simp only [List.singleton_append]
            exact List.perm_middle.symm
        · simp only [Array.size_append, List.size_toArray, size_zeroCells, hzz, hlx, Nat.mul_one]
          omega
        · rw [hzc, zeros_one, zeros_one, Nat.mul_one]
          have : m + k = (xs ++ List.replicate k v0).length := by simp [hlx]
          rw [this]
          simp only [Array.toList_append]
          exact List.take_left
end
end Go.Proofs.Ytohlaabclifbfaa.X
