/-
  Words of my own for walks: an append to a slice without room, wherever it lies; a text from a place on. No condition; generic over the program.
-/
import Derived.Test.YtoolgphkfnkajaaX14
import Derived.Test.YtoolgphkfnkajaaX12
import Derived.Laws.Strings2
namespace Go.Proofs.Ytoolgphkfnkajaa.X
open Go Go.RowKit
set_option linter.unusedVariables false
set_option linter.unusedSimpArgs false
section
variable {P : Program} {W : World} {n : Nat} {L : List Blk} {E : List (Nat × Value)} {d : Option Nat} {t : TypeId} {pos : String} {after : Array Edge} {g : Option (Nat × Bool)} {K : Value → List Blk → Prop}
theorem ef_appendFull {T e s bt : Nat} {z : Value} {x y : Operand} {b o m k c : Nat} {p : Option Addr} {xs news : List Value} [hT : Sl P T e] [hI : Inf P e z s bt]
    (hx : ev E x = some (.slice (some ⟨b, o, none⟩) m m)) (hy : ev E y = some (.slice p k c)) (hold : Rs W L (some ⟨b, o, none⟩) xs) (hxl : xs.length = m * s) (hsrc : Rs W L p news) (hk : news.length = k * s) (h1a : news.all (·.oneCell') = true) (hs : 0 < s) (hk0 : 0 < k)
    (hfit : (m + k) * bt ≤ 140737488355328) (hsm : m + k ≤ 9223372036854775807) (hK : ∀ q c' l', SlO s e (.slice q (m + k) c') (m + k) (xs ++ news) l' → m + k ≤ c' → K (.slice q (m + k) c') (l' ++ L)) :
    EF P W n L E ⟨d, .call ⟨.builtin .append, #[x, y], #[T, T]⟩, t, pos, after, g⟩ K := by
  refine ⟨fun a w ha hw => ?_⟩
  have hrun : (execOp a.eval ⟨d, .call ⟨.builtin .append, #[x, y], #[T, T]⟩, t, pos, after, g⟩).run P w = ((Builtin.append_ #[T, T] t #[.slice (some ⟨b, o, none⟩) m m, .slice p k c]).run P w).andThen fun v w => .ok (.value v) w := by
    simp [execOp, resolve, invoke, builtin, ha.eval hx, ha.eval hy]
  rw [hrun]
  obtain ⟨i, hi1, hi2, hi3, hi4, hzz⟩ := hI.h
  subst hi3; subst hi4
  have hpos : 0 < news.length := by rw [hk]; exact Nat.mul_pos hk0 hs
  obtain ⟨b0, o0, hp, _⟩ := hsrc 0 _ (List.getElem?_eq_getElem hpos)
  subst hp
  have hnews : ∀ j u, news[j]? = some u → w.cell? ((⟨b0, o0, none⟩ : Addr).add j) = some u := fun j u hj => by
    obtain ⟨b', o', hbo, hc⟩ := hsrc j u hj
    simp only [Option.some.injEq, Addr.mk.injEq] at hbo
    obtain ⟨rfl, rfl, _⟩ := hbo
    rw [add_zero']; exact hc.get hw
  have holds : ∀ j u, xs[j]? = some u → w.cell? ((⟨b, o, none⟩ : Addr).add j) = some u := fun j u hj => by
    obtain ⟨b', o', hbo, hc⟩ := hold j u hj
    simp only [Option.some.injEq, Addr.mk.injEq] at hbo
    obtain ⟨rfl, rfl, _⟩ := hbo
    rw [add_zero']; exact hc.get hw
  have hr := run_append_grow (P := P) w T t e i z hT.h hi1 hi2 ⟨b, o, none⟩ m m xs hxl holds ⟨b0, o0, none⟩ k c news hk hnews (by omega) (by omega) (growslice_fits (by omega) hfit)
  rw [hr]
  have hge := grownCap_ge w (m + k) m e
  refine ⟨_, hw.drew.alloc _, hK _ _ [(w.heap.size, .cells (xs.toArray ++ news.toArray ++ Builtin.zeroCells z.cells (grownCap w (m + k) m e - (m + k))) e (0, 0))] (.inr ⟨w.heap.size, _, grownCap w (m + k) m e, rfl, rfl, by omega, ?_, ?_⟩) (by omega)⟩
  · simp only [Array.size_append, List.size_toArray, size_zeroCells, hk, hxl]
    rw [hzz, ← Nat.add_mul, ← Nat.add_mul]
    congr 1
    omega
  · have : (m + k) * i.size = (xs ++ news).length := by rw [List.length_append, hxl, hk, Nat.add_mul]
    rw [this]
    simp only [Array.toList_append, List.append_assoc]
    rw [← List.append_assoc]
    exact List.take_left
theorem rd_sl3Hi {T e m b o len cap : Nat} {x hi mx : Operand} {k' k'' : IntKind} {j q : Int} [hT : Sl P T e] [hS : Ts P e m] (hx : ev E x = some (.slice (some ⟨b, o, none⟩) len cap)) (hh : ev E hi = some (.int k' j)) (hm : ev E mx = some (.int k'' q))
    (h0 : 0 ≤ j) (h2 : j ≤ q) (h3 : q ≤ cap) :
    RD P W n L E ⟨d, .slice T x none (some hi) (some mx), t, pos, after, g⟩ (.slice (some ⟨b, o, none⟩) j.toNat q.toNat) := .mk fun a w ha hw => by
  have hB := hS.h w
  have e2 : 0 ≤ q := by omega
  have e3 : j ≤ (q.toNat : Int) := by omega
  have e5 : j ≤ max q 0 := by omega
  simp [execOp, ha.eval hx, ha.eval hh, ha.eval hm, Instr.sliceAt, Instr.slice, Instr.sliceBounds, Instr.sliceBound, run_underlying hT.h, asIntOf, hB, h0, h2, h3, e2, e3, e5, add_zero']
/-- A text from a place on. -/
theorem rd_strLo {T : Nat} {x lo : Operand} {k : IntKind} {i : Int} {s : ByteArray} [hT : St P T] (hx : ev E x = some (.string s)) (hl : ev E lo = some (.int k i)) (h0 : 0 ≤ i) (h1 : i ≤ s.size) :
    RD P W n L E ⟨d, .slice T x (some lo) none none, t, pos, after, g⟩ (.string (s.extract i.toNat s.size)) := .mk fun a w ha hw => by
  simp [execOp, ha.eval hx, ha.eval hl, Instr.sliceAt, Instr.slice, Instr.sliceBounds, Instr.sliceBound, run_underlying hT.h, asIntOf, h0, h1]
end
/-! ### several that come up together, guarded or not -/
section
variable {P : Program} {W : World} {n : Nat} {ops : Array Oper} {Q : Exit → Act → World → Prop} {M L : List Blk} {E : List (Nat × Value)} {pm tm : List Nat} {fuel m : Nat}
structure XMS (P : Program) (W : World) (n : Nat) (ops : Array Oper) (Q : Exit → Act → World → Prop) (M : List Blk) (pm tm : List Nat) (fuel m : Nat) (L : List Blk) (E : List (Nat × Value)) (i : Nat) : Prop where
  run : pmOf ops = pm → tmOf ops = tm → Region.noSelect ops = true → ∀ listed, Rep ops.size listed m → ∀ a w, Env n a E → Hp W w L →
    wpOp P ops (NoPanic Q) i (fun a' w' => Hp W w' M ∧ wpAnyH P .any ops (NoPanic Q) (fun w => Hp W w M) fuel (listed.setIfInBounds i true) a' w') a w
theorem xms_ef (i : Nat) {m' : Nat} {d : Option Nat} {op : Op} {t : TypeId} {pos : String} {after : Array Edge} (hi : ops[i]? = some ⟨d, op, t, pos, after, none⟩) (hd : okd n d = true) (hm : m ||| (1 <<< i) = m')
    (hv : EF P W n L E ⟨d, op, t, pos, after, none⟩ (fun v L' => Sb M L' ∧ XM P W n ops Q M pm tm fuel m' L' (pt E d v))) : XMS P W n ops Q M pm tm fuel m L E i := ⟨fun h1 h2 h3 listed hrp a w ha hw => xm_step h1 h2 h3 hi hd hm hrp hv ha hw⟩
theorem xms_gef (i : Nat) {m' : Nat} {d : Option Nat} {op : Op} {t : TypeId} {pos : String} {after : Array Edge} {g gt : Nat} {b : Bool} (hi : ops[i]? = some ⟨d, op, t, pos, after, some (g, b)⟩) (hd : okd n d = true) (hg : (ops[g]?).bind (·.dst) = some gt) (ht : lk E gt = some (.bool b)) (hm : m ||| (1 <<< i) = m')
    (hv : EF P W n L E ⟨d, op, t, pos, after, some (g, b)⟩ (fun v L' => Sb M L' ∧ XM P W n ops Q M pm tm fuel m' L' (pt E d v))) : XMS P W n ops Q M pm tm fuel m L E i := ⟨fun h1 h2 h3 listed hrp a w ha hw => by
  unfold wpOp
  simp only [hi, Region.wanted, yielded_of (ops := ops) ha hg ht, beq_self_eq_true, if_true]
  refine .inl ?_
  unfold Oper.wp
  exact effUp.upon (hv.run a w ha hw) fun v w' ⟨L', h5, h6, h7⟩ => ⟨h6.hp h5, h7.run h1 h2 h3 _ (hm ▸ hrp.set (Array.getElem?_eq_some_iff.1 hi).1) _ _ (ha.pt d v hd) h5⟩⟩
theorem xm_l2 (i k : Nat) (hr : readyM pm.zipIdx m = [i, k]) (s1 : XMS P W n ops Q M pm tm fuel m L E i) (s2 : XMS P W n ops Q M pm tm fuel m L E k) : XM P W n ops Q M pm tm (fuel + 1) m L E := .mk fun h1 h2 h3 listed hrp a w ha hw => by
  have hmem : ∀ j, j ∈ Region.ready .any ops listed ↔ j = i ∨ j = k := fun j => by
    rw [ready_readyM hrp, h1, hr]; simp
  refine ⟨fun h => ?_, fun j hj => ?_⟩
  · have := (hmem i).2 (.inl rfl)
    rw [h] at this; cases this
  · rcases (hmem j).1 hj with rfl | rfl
    · exact s1.run h1 h2 h3 listed hrp a w ha hw
    · exact s2.run h1 h2 h3 listed hrp a w ha hw
theorem xm_l3 (i k l : Nat) (hr : readyM pm.zipIdx m = [i, k, l]) (s1 : XMS P W n ops Q M pm tm fuel m L E i) (s2 : XMS P W n ops Q M pm tm fuel m L E k) (s3 : XMS P W n ops Q M pm tm fuel m L E l) : XM P W n ops Q M pm tm (fuel + 1) m L E := .mk fun h1 h2 h3 listed hrp a w ha hw => by
  have hmem : ∀ j, j ∈ Region.ready .any ops listed ↔ j = i ∨ j = k ∨ j = l := fun j => by
    rw [ready_readyM hrp, h1, hr]; simp
  refine ⟨fun h => ?_, fun j hj => ?_⟩
  · have := (hmem i).2 (.inl rfl)
    rw [h] at this; cases this
  · rcases (hmem j).1 hj with rfl | rfl | rfl
    · exact s1.run h1 h2 h3 listed hrp a w ha hw
    · exact s2.run h1 h2 h3 listed hrp a w ha hw
    · exact s3.run h1 h2 h3 listed hrp a w ha hw
end
end Go.Proofs.Ytoolgphkfnkajaa.X
