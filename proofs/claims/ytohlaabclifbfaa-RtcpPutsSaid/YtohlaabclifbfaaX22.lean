/-
  Words of my own for walks, twenty-second part: a text's bytes that are appended. No condition; generic over the program.
-/
import Derived.Test.YtohlaabclifbfaaX21
import Derived.Lib.AppendStr
namespace Go.Proofs.Ytohlaabclifbfaa.X
open Go Go.RowKit
set_option linter.unusedVariables false
set_option linter.unusedSimpArgs false
theorem strCells_sbs (s : ByteArray) : Lib.strCells s = ints .u8 (sbs s) := by simp [Lib.strCells, ints, sbs]
section
variable {P : Program} {W : World} {n : Nat} {L : List Blk} {E : List (Nat × Value)} {d : Option Nat} {t : TypeId} {pos : String} {after : Array Edge} {g : Option (Nat × Bool)} {K : Value → List Blk → Prop}
/-- A text's bytes are appended to an owned slice of bytes. -/
theorem ef_appendT (A R l : List Blk) {T T2 e bt : Nat} {z v0 : Value} {x y : Operand} {v : Value} {m : Nat} {s : ByteArray} {xs : List Value} [hT : Sl P T e] [hT2 : St P T2] [hI : Inf P e z 1 bt]
    (hx : ev E x = some v) (hy : ev E y = some (.string s)) (hO : SlO 1 e v m xs l) (hL : L = A ++ (l ++ R)) (hzc : z.cells = #[v0])
    (hfit : (m + s.size) * bt ≤ 140737488355328) (hsm : m + s.size ≤ 9223372036854775807) (hK : ∀ q c' l', SlO 1 e (.slice q (m + s.size) c') (m + s.size) (xs ++ ints .u8 (sbs s)) l' → m + s.size ≤ c' → K (.slice q (m + s.size) c') (A ++ (l' ++ R))) :
    EF P W n L E ⟨d, .call ⟨.builtin .append, #[x, y], #[T, T2]⟩, t, pos, after, g⟩ K := by
  rw [← strCells_sbs] at hK
  obtain ⟨p0, c0, rfl, hO, hmc0⟩ := hO.opn
  refine ⟨fun a w ha hw => ?_⟩
  have hrun : (execOp a.eval ⟨d, .call ⟨.builtin .append, #[x, y], #[T, T2]⟩, t, pos, after, g⟩).run P w = ((Builtin.append_ #[T, T2] t #[.slice p0 m c0, .string s]).run P w).andThen fun v w => .ok (.value v) w := by
    simp [execOp, resolve, invoke, builtin, ha.eval hx, ha.eval hy]
  rw [hrun]
  obtain ⟨i, hi1, hi2, hi3, hi4, hzz⟩ := hI.h
  subst hi4
  have hkb : s.size * i.bytes ≤ 281474976710656 := by
    have : s.size * i.bytes ≤ (m + s.size) * i.bytes := Nat.mul_le_mul_right _ (by omega)
    omega
  have hsl := Lib.strCells_length s
  by_cases hk0 : s.size = 0
  · have hn : Lib.strCells s = [] := List.eq_nil_of_length_eq_zero (by rw [hsl]; exact hk0)
    have hr : (Builtin.append_ #[T, T2] t #[.slice p0 m c0, .string s]).run P w = .ok (.slice p0 m c0) w := by
      have hf := Lib.run_firstCells_string (P := P) w 1 s
      rw [hk0] at hf
      cases p0 <;> simp [Builtin.append_, run_underlying hT.h, run_underlying hT2.h, sizeOf, typeInfo, hi1, hi3, Builtin.lenOf, hk0, hf, hmc0, hn, storeCells]
    rw [hr]
    refine ⟨_, hw, ?_⟩
    rw [hL]
    have := hK p0 c0 l (by rw [hn, hk0]; simpa using hO) (by omega)
    rwa [hk0] at this
  · rcases hO with ⟨he, rfl, rfl, rfl⟩ | ⟨b, cs, cap, he, rfl, hmc, hcs, htk⟩
    · simp only [Value.slice.injEq] at he
      obtain ⟨rfl, _, rfl⟩ := he
      have hr := run_append_nil_string (P := P) w T T2 t e i z hT.h hT2.h hi1 hi2 s (by omega) (by omega) hkb
      have e1 : (s.data.map fun b => Value.int .u8 b.toNat) = (Lib.strCells s).toArray := by
        apply Array.ext'
        simp [Lib.strCells]
      rw [e1] at hr
      rw [hr]
      have hge := grownCap_ge w s.size 0 e
      have hcap : 0 + s.size ≤ grownCap w s.size 0 e := by omega
      have hK' := hK (some ⟨w.heap.size, 0, none⟩) (grownCap w s.size 0 e) [(w.heap.size, .cells ((Lib.strCells s).toArray ++ Builtin.zeroCells z.cells (grownCap w s.size 0 e - s.size)) e (0, 0))] (.inr ⟨w.heap.size, _, grownCap w s.size 0 e, rfl, rfl, hcap, ?_, ?_⟩) hcap
      · refine ⟨_, (hw.drew.alloc _).perm ?_, by rw [Nat.zero_add] at hK'; exact hK'⟩
        rw [hL]
        simp only [List.nil_append, List.singleton_append]
        exact List.perm_middle.symm
      · simp only [Array.size_append, size_zeroCells, hzz, Nat.mul_one, List.size_toArray, hsl]
        omega
      · rw [hzc, zeros_one]
        simp only [Array.toList_append, Nat.zero_add, Nat.mul_one, List.nil_append]
        rw [← hsl]
        exact List.take_left
    · simp only [Value.slice.injEq] at he
      obtain ⟨rfl, _, rfl⟩ := he
      rw [Nat.mul_one] at hcs htk
      have hw2 := hw
      rw [hL] at hw2
      have hlx : xs.length = m := by rw [← htk, List.length_take, Array.length_toList]; omega
      by_cases hroom : m + s.size ≤ c0
      · have hr := Lib.run_append_room_string (P := P) w T T2 t e i hT.h hT2.h hi1 hi3 b m c0 cs hw2.mid s hroom (by omega)
        rw [hr]
        have hK' := hK (some ⟨b, 0, none⟩) c0 [(b, .cells (cs.toList.take m ++ Lib.strCells s ++ cs.toList.drop (m + s.size)).toArray e (0, 0))] (.inr ⟨b, _, c0, rfl, rfl, hroom, ?_, ?_⟩) hroom
        · exact ⟨_, hw2.turnAt rfl rfl rfl (setRow_heap w b cs _ e (0, 0) hw2.mid) (fun q hq => setRow_other w b q _ hq), hK'⟩
        · simp only [List.size_toArray, List.length_append, List.length_take, List.length_drop, hsl, Array.length_toList, Nat.mul_one]
          omega
        · rw [htk, Nat.mul_one]
          have : m + s.size = (xs ++ Lib.strCells s).length := by simp [hlx, hsl]
          rw [this]
          exact List.take_left
      · have holds : ∀ j u, xs[j]? = some u → w.cell? ((⟨b, 0, none⟩ : Addr).add j) = some u := fun j u hj => by
          rw [add_zero']
          rw [← htk, List.getElem?_take] at hj
          split at hj
          · simp [World.cell?, hw2.mid]; simpa using hj
          · cases hj
        have hr := Lib.run_append_grow_string (P := P) w T T2 t e i z hT.h hT2.h hi1 hi2 ⟨b, 0, none⟩ m c0 xs (by rw [hi3]; omega) holds s (by omega) (by omega) (growslice_fits (by omega) hfit)
        rw [hr]
        have hge := grownCap_ge w (m + s.size) c0 e
        have hK' := hK (some ⟨w.heap.size, 0, none⟩) (grownCap w (m + s.size) c0 e) [(w.heap.size, .cells (xs.toArray ++ (Lib.strCells s).toArray ++ Builtin.zeroCells z.cells (grownCap w (m + s.size) c0 e - (m + s.size))) e (0, 0))] (.inr ⟨w.heap.size, _, grownCap w (m + s.size) c0 e, rfl, rfl, hge, ?_, ?_⟩) hge
        · refine ⟨_, ((hw2.drew.alloc _).sub (L' := (w.heap.size, .cells (xs.toArray ++ (Lib.strCells s).toArray ++ Builtin.zeroCells z.cells (grownCap w (m + s.size) c0 e - (m + s.size))) e (0, 0)) :: (A ++ R)) ?_).perm ?_, hK'⟩
          · refine List.Sublist.cons_cons _ ?_
            exact (List.Sublist.refl A).append (by simp)
          · simp only [List.singleton_append]
            exact List.perm_middle.symm
        · simp only [Array.size_append, List.size_toArray, size_zeroCells, hzz, hlx, hsl, Nat.mul_one]
          omega
        · rw [Nat.mul_one]
          have : m + s.size = (xs ++ Lib.strCells s).length := by simp [hlx, hsl]
          rw [this]
          simp only [Array.toList_append]
          exact List.take_left
end
end Go.Proofs.Ytohlaabclifbfaa.X
