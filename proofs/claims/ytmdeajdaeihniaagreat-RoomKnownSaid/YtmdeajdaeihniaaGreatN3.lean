/-
  Texts of my own, put together: walks and laws for this seat. No condition.
-/
import Derived.Test.YtmdeajdaeihniaaGreatN2
import Derived.Laws.IdiomStrings
import Derived.Laws.BytesArg
import Derived.Laws.StructEq
import Derived.Laws.Strings
import Derived.Laws.MakeOwn
import Derived.Laws.Strings2
import Derived.Laws.IdiomRangeMap
import Derived.Test.YtmdeajdaeihniaaGreatN1
/-
  Words of my own for walks, fourteenth part: texts and rows of bytes. No condition; generic over the program.
-/
namespace Go.Proofs.YtmdeajdaeihniaaGreat.X
open Go Go.RowKit
set_option linter.unusedVariables false
set_option linter.unusedSimpArgs false
/-- All rows at once. -/
theorem Rs.rows {α : Type} {W : World} {L : List Blk} {p : Option Addr} {enc : α → List Value} {s : Nat} {l : List α} (h : Rs W L p (l.flatMap enc)) (hs : ∀ x, (enc x).length = s) (h0 : 0 < s) (hne : 0 < l.length) :
    ∃ b o, p = some ⟨b, o, none⟩ ∧ ∀ k (hk : k < l.length) j u, (enc l[k])[j]? = some u → Cl W L b (o + k * s + j) u := by
  obtain ⟨b, o, rfl, _⟩ := h.row hs h0 (k := 0) hne
  refine ⟨b, o, rfl, fun k hk j u hj => ?_⟩
  obtain ⟨b', o', hp, hc⟩ := h.row hs h0 hk
  simp only [Option.some.injEq, Addr.mk.injEq, and_true] at hp
  obtain ⟨rfl, rfl⟩ := hp
  exact hc j u hj
section
variable {P : Program} {W : World} {n : Nat} {L : List Blk} {E : List (Nat × Value)} {ops : Array Oper} {Q : Exit → Act → World → Prop} {rest : List Oper}
end
section
variable {P : Program} {W : World} {n : Nat} {L : List Blk} {E : List (Nat × Value)} {d : Option Nat} {t : TypeId} {pos : String} {after : Array Edge} {g : Option (Nat × Bool)} {K : Value → List Blk → Prop}
/-- An append, its value spelt as a slice. -/
theorem ef_appendS (A R l : List Blk) {T e s bt : Nat} {z : Value} {x y : Operand} {v : Value} {m k c : Nat} {p : Option Addr} {xs news : List Value} [hT : Sl P T e] [hI : Inf P e z s bt]
    (hx : ev E x = some v) (hy : ev E y = some (.slice p k c)) (hO : SlO s e v m xs l) (hL : L = A ++ (l ++ R)) (hsrc : Rs W L p news) (hk : news.length = k * s) (h1a : news.all (·.oneCell') = true) (hs : 0 < s)
    (hfit : (m + k) * bt ≤ 140737488355328) (hsm : m + k ≤ 9223372036854775807) (hK : ∀ q c' l', SlO s e (.slice q (m + k) c') (m + k) (xs ++ news) l' → m + k ≤ c' → K (.slice q (m + k) c') (A ++ (l' ++ R))) :
    EF P W n L E ⟨d, .call ⟨.builtin .append, #[x, y], #[T, T]⟩, t, pos, after, g⟩ K :=
  ef_append A R l hx hy hO hL hsrc hk h1a hs hfit hsm fun v' l' h => by
    obtain ⟨q, c', rfl, h, hc⟩ := h.opn
    exact hK q c' l' h hc
end
/-- The results are one whole block, and two values. -/
theorem xq_retB3 {P : Program} {W : World} {n : Nat} {L : List Blk} {E : List (Nat × Value)} {K : Value → List Blk → Prop} {fn : Func} {t u s T b m : Nat} {vs : List Value} {x y : Value} {T' : TypeId} {fr : Nat × Nat} {e : Exit} [hA : Ta P T true] [hS : Ts P T m] (he : e = .ret ∨ e = .normal) (hr : fn.results = #[.cell t T, .tmp u, .tmp s]) (ht : lk E t = some (.pointer (some ⟨b, 0, none⟩)))
    (hu : lk E u = some x) (hs : lk E s = some y) (hk : Kn W L b (.cells vs.toArray T' fr)) (hm : vs.length = m) {L' : List Blk} (hL : L'.Sublist L) (h : K (.tuple #[.agg vs.toArray, x, y]) L') : XQ W n (bodyPost P fn (XP W K)) e L E :=
  xq_retg' hL he (fun a w ha hw => by
    have h1 := hA.h w
    have h2 := hS.h w
    subst hm
    have hl := run_loadCells_list (P := P) w ⟨b, 0, none⟩ vs (fun j v hj => by
      rw [add_zero', Nat.zero_add]
      exact (Cl.get (L := L) ⟨_, _, _, hk, by simpa using hj⟩ hw))
    have hv := ha.val t _ ht
    have hv2 := ha.val u _ hu
    have hv3 := ha.val s _ hs
    simp [results, hr, Array.getD_eq_getD_getElem?, hv, hv2, hv3, asAddr, loadVar, h1, h2, hl]) h
section
variable {P : Program} {W : World} {n : Nat} {L : List Blk} {E : List (Nat × Value)} {d : Option Nat} {t : TypeId} {pos : String} {after : Array Edge} {g : Option (Nat × Bool)} {K : Value → List Blk → Prop}
end
end Go.Proofs.YtmdeajdaeihniaaGreat.X
/-
  Words of my own for walks, eighteenth part: slices that are made; three effects that come up together; prefixes. No condition; generic over the program.
-/
namespace Go.Proofs.YtmdeajdaeihniaaGreat.X
open Go Go.RowKit
set_option linter.unusedVariables false
set_option linter.unusedSimpArgs false
section
variable {P : Program} {W : World} {n : Nat} {L : List Blk} {E : List (Nat × Value)} {d : Option Nat} {t : TypeId} {pos : String} {after : Array Edge} {g : Option (Nat × Bool)} {K : Value → List Blk → Prop}
end
theorem Rs.take {W : World} {L : List Blk} {p : Option Addr} {xs : List Value} (h : Rs W L p xs) (k : Nat) : Rs W L p (xs.take k) := fun j u hj => h j u (by
  rw [List.getElem?_take] at hj
  split at hj
  · exact hj
  · cases hj)
section
variable {P : Program} {W : World} {n : Nat} {ops : Array Oper} {Q : Exit → Go.Act → World → Prop} {M L : List Blk} {pm tm : List Nat} {fuel m : Nat} {E : List (Nat × Value)}
end
end Go.Proofs.YtmdeajdaeihniaaGreat.X
/-
  Words of my own for walks, nineteenth part: slices of slices, whatever they point to; bit operations as arithmetic. No condition; generic over the program.
-/
namespace Go.Proofs.YtmdeajdaeihniaaGreat.X
open Go Go.RowKit
set_option linter.unusedVariables false
set_option linter.unusedSimpArgs false
/-- Where a slice from l on points. -/
def slp (p : Option Addr) (cap l s : Nat) : Option Addr := if cap = l then p else p.map (·.add (l * s))
section
variable {P : Program} {W : World} {n : Nat} {L : List Blk} {E : List (Nat × Value)} {d : Option Nat} {t : TypeId} {pos : String} {after : Array Edge} {g : Option (Nat × Bool)}
theorem addr_add_zero (a : Addr) : a.add 0 = a := by cases a; rfl
theorem rd_slHi {T e len cap m : Nat} {p : Option Addr} {x hi : Operand} {k : IntKind} {j : Int} [hT : Sl P T e] [hS : Ts P e m] (hx : ev E x = some (.slice p len cap)) (hh : ev E hi = some (.int k j))
    (h0 : 0 ≤ j) (h2 : j ≤ cap) :
    RD P W n L E ⟨d, .slice T x none (some hi) none, t, pos, after, g⟩ (.slice p j.toNat cap) := .mk fun a w ha hw => by
  have hB := hS.h w
  have hp : p.map (fun a : Addr => a.add 0) = p := by cases p with
    | none => rfl
    | some a => show some (a.add 0) = some a; rw [addr_add_zero]
  simp [execOp, ha.eval hx, ha.eval hh, Instr.sliceAt, Instr.slice, Instr.sliceBounds, Instr.sliceBound, run_underlying hT.h, asIntOf, hB, h0, h2, hp]
theorem rd_slLo {T e len cap m : Nat} {p : Option Addr} {x lo : Operand} {k : IntKind} {i : Int} [hT : Sl P T e] [hS : Ts P e m] (hx : ev E x = some (.slice p len cap)) (hl : ev E lo = some (.int k i))
    (h0 : 0 ≤ i) (h1 : i ≤ len) :
    RD P W n L E ⟨d, .slice T x (some lo) none none, t, pos, after, g⟩ (.slice (slp p cap i.toNat m) (len - i.toNat) (cap - i.toNat)) := .mk fun a w ha hw => by
  have hB := hS.h w
  simp [execOp, ha.eval hx, ha.eval hl, Instr.sliceAt, Instr.slice, Instr.sliceBounds, Instr.sliceBound, run_underlying hT.h, asIntOf, hB, h0, h1, slp]
end
theorem Rs.slp {W : World} {L : List Blk} {p : Option Addr} {xs : List Value} (h : Rs W L p xs) (cap l : Nat) (hc : xs.length ≤ cap) : Rs W L (slp p cap l 1) (xs.drop l) := by
  unfold X.slp
  split
  · rename_i he
    rw [List.drop_eq_nil_of_le (by omega)]
    exact Rs.nil
  · cases p with
    | none => rw [h.none_nil]; simp; exact Rs.nil
    | some a =>
      by_cases h0 : xs.length = 0
      · rw [List.length_eq_zero_iff.1 h0]; simp; exact Rs.nil
      · obtain ⟨b, o, ha, _⟩ := h 0 _ (List.getElem?_eq_getElem (by omega))
        simp only [Option.some.injEq] at ha
        subst ha
        rw [Nat.mul_one]
        show Rs W L (some ((⟨b, o, none⟩ : Addr).add l)) _
        rw [add_zero']
        exact h.drop l
/-! ### bits -/
end Go.Proofs.YtmdeajdaeihniaaGreat.X
/-
  Words of my own for walks, twentieth part: four effects that come up together. No condition; generic over the program.
-/
namespace Go.Proofs.YtmdeajdaeihniaaGreat.X
open Go Go.RowKit
set_option linter.unusedVariables false
set_option linter.unusedSimpArgs false
section
variable {P : Program} {W : World} {n : Nat} {ops : Array Oper} {Q : Exit → Go.Act → World → Prop} {M L : List Blk} {pm tm : List Nat} {fuel m : Nat} {E : List (Nat × Value)}
end
section
variable {P : Program} {W : World} {n : Nat} {L : List Blk} {E : List (Nat × Value)} {d : Option Nat} {t : TypeId} {pos : String} {after : Array Edge} {g : Option (Nat × Bool)} {Q : Exit → Go.Act → World → Prop}
/-- A loop whose own blocks stay. -/
theorem xc_loopK {c : Code} {ι : Type} (I : ι → Prop) (μ : ι → Nat) (Es : ι → List (Nat × Value)) (i0 : ι) (h0 : I i0) (hE : ∀ i v, lk (Es i0) i = some v → lk E i = some v)
    (round : ∀ i, I i → XC P W n c (Exit.then (fun a w => ∃ j, I j ∧ μ j < μ i ∧ Env n a (Es j) ∧ Hp W w L) Q) L (Es i)) : XC P W n (.loop c) Q L E := xc_loopI I μ (fun _ => L) Es i0 h0 rfl hE round
theorem xq_roundK {ι : Type} {I : ι → Prop} {μ : ι → Nat} {Es : ι → List (Nat × Value)} {m : Nat} {L' : List Blk} {e : Exit} (he : e = .normal) (j : ι) (hj : I j) (hm : μ j < m) (hL : L'.Sublist L) (hE : ∀ k v, lk (Es j) k = some v → lk E k = some v) :
    XQ W n (Exit.then (fun a w => ∃ j, I j ∧ μ j < m ∧ Env n a (Es j) ∧ Hp W w L') Q) e L E := by
  subst he; exact xq_sub hL (xq_roundI (Ls := fun _ => L') j hj hm rfl hE)
end
end Go.Proofs.YtmdeajdaeihniaaGreat.X
/-
  Words of my own for walks: a slice that is made, of elements of several cells. No condition; generic over the program.
-/
namespace Go.Proofs.YtmdeajdaeihniaaGreat.X
open Go Go.RowKit
set_option linter.unusedVariables false
section
variable {P : Program} {W : World} {n : Nat} {L : List Blk} {E : List (Nat × Value)} {d : Option Nat} {t : TypeId} {pos : String} {after : Array Edge} {g : Option (Nat × Bool)} {K : Value → List Blk → Prop}
end
end Go.Proofs.YtmdeajdaeihniaaGreat.X
/-
  Words of my own for walks: an append to a slice without room, wherever it lies; a text from a place on. No condition; generic over the program.
-/
namespace Go.Proofs.YtmdeajdaeihniaaGreat.X
open Go Go.RowKit
set_option linter.unusedVariables false
set_option linter.unusedSimpArgs false
section
variable {P : Program} {W : World} {n : Nat} {L : List Blk} {E : List (Nat × Value)} {d : Option Nat} {t : TypeId} {pos : String} {after : Array Edge} {g : Option (Nat × Bool)} {K : Value → List Blk → Prop}
end
/-! ### several that come up together, guarded or not -/
section
variable {P : Program} {W : World} {n : Nat} {ops : Array Oper} {Q : Exit → Act → World → Prop} {M L : List Blk} {E : List (Nat × Value)} {pm tm : List Nat} {fuel m : Nat}
structure XMS (P : Program) (W : World) (n : Nat) (ops : Array Oper) (Q : Exit → Act → World → Prop) (M : List Blk) (pm tm : List Nat) (fuel m : Nat) (L : List Blk) (E : List (Nat × Value)) (i : Nat) : Prop where
  run : pmOf ops = pm → tmOf ops = tm → Region.noSelect ops = true → ∀ listed, Rep ops.size listed m → ∀ a w, Env n a E → Hp W w L →
    wpOp P ops (NoPanic Q) i (fun a' w' => Hp W w' M ∧ wpAnyH P .any ops (NoPanic Q) (fun w => Hp W w M) fuel (listed.setIfInBounds i true) a' w') a w
end
end Go.Proofs.YtmdeajdaeihniaaGreat.X
/-
  Words of my own for walks, twenty-sixth part: an owned row that begins anywhere in its block. No condition; generic over the program.
-/
namespace Go.Proofs.YtmdeajdaeihniaaGreat.X
open Go Go.RowKit
set_option linter.unusedVariables false
set_option linter.unusedSimpArgs false
/-- An owned row, from a place of its block on. -/
def SlQ (s : Nat) (e : TypeId) (v : Value) (m : Nat) (xs : List Value) (l : List Blk) : Prop :=
  (v = .slice none 0 0 ∧ m = 0 ∧ xs = [] ∧ l = []) ∨
  ∃ b o cs cap, v = .slice (some ⟨b, o, none⟩) m cap ∧ l = [(b, .cells cs e (0, 0))] ∧ m ≤ cap ∧ o + cap * s ≤ cs.size ∧ (cs.toList.drop o).take (m * s) = xs
theorem SlQ.nil {s : Nat} {e : TypeId} : SlQ s e (.slice none 0 0) 0 [] [] := .inl ⟨rfl, rfl, rfl, rfl⟩
theorem SlO.q {s : Nat} {e : TypeId} {v : Value} {m : Nat} {xs : List Value} {l : List Blk} (h : SlO s e v m xs l) : SlQ s e v m xs l := by
  rcases h with h | ⟨b, cs, cap, h1, h2, h3, h4, h5⟩
  · exact .inl h
  · exact .inr ⟨b, 0, cs, cap, h1, h2, h3, by omega, by simpa using h5⟩
theorem SlQ.len {s : Nat} {e : TypeId} {v : Value} {m : Nat} {xs : List Value} {l : List Blk} (h : SlQ s e v m xs l) : xs.length = m * s := by
  rcases h with ⟨_, rfl, rfl, _⟩ | ⟨b, o, cs, cap, h1, h2, h3, h4, h5⟩
  · simp
  · rw [← h5, List.length_take, List.length_drop, Array.length_toList]
    have : m * s ≤ cap * s := Nat.mul_le_mul_right _ h3
    omega
theorem SlQ.opn {s : Nat} {e : TypeId} {v : Value} {m : Nat} {xs : List Value} {l : List Blk} (h : SlQ s e v m xs l) : ∃ p c, v = .slice p m c ∧ SlQ s e (.slice p m c) m xs l ∧ m ≤ c := by
  have h' := h
  rcases h with ⟨rfl, rfl, rfl, rfl⟩ | ⟨b, o, cs, cap, h1, h2, h3, h4, h5⟩
  · exact ⟨none, 0, rfl, h', Nat.le_refl _⟩
  · exact ⟨_, cap, h1, h1 ▸ h', h3⟩
theorem SlQ.rs {W : World} {L : List Blk} {s : Nat} {e : TypeId} {p : Option Addr} {m c : Nat} {xs : List Value} {l : List Blk} (h : SlQ s e (.slice p m c) m xs l) (hl : ∀ q, q ∈ l → q ∈ L) : Rs W L p xs := by
  rcases h with ⟨_, _, rfl, _⟩ | ⟨b, o, cs, cap, h1, rfl, h3, h4, h5⟩
  · exact Rs.nil
  · intro j u hj
    simp only [Value.slice.injEq] at h1
    refine ⟨b, o, h1.1, Cl.own (hl _ (List.mem_singleton.2 rfl)) ?_⟩
    rw [← h5, List.getElem?_take] at hj
    split at hj
    · rw [List.getElem?_drop] at hj
      simpa using hj
    · cases hj
theorem SlQ.rsl {W : World} {s : Nat} {e : TypeId} {p : Option Addr} {m c : Nat} {xs : List Value} {l R : List Blk} (h : SlQ s e (.slice p m c) m xs l) : Rs W (l ++ R) p xs := h.rs fun _ hq => List.mem_append_left _ hq
/-- The row behind its first elements. -/
theorem SlQ.cut {s : Nat} {e : TypeId} {p : Option Addr} {m c : Nat} {xs : List Value} {l : List Blk} (h : SlQ s e (.slice p m c) m xs l) (k : Nat) (hk : k ≤ m) :
    SlQ s e (.slice (slp p c k s) (m - k) (c - k)) (m - k) (xs.drop (k * s)) l := by
  rcases h with ⟨h1, rfl, rfl, rfl⟩ | ⟨b, o, cs, cap, h1, rfl, h3, h4, h5⟩
  · simp only [Value.slice.injEq] at h1
    obtain ⟨rfl, _, rfl⟩ := h1
    have : k = 0 := by omega
    subst this
    exact .inl ⟨by unfold slp; simp, rfl, by simp, rfl⟩
  · simp only [Value.slice.injEq, true_and] at h1
    obtain ⟨rfl, rfl⟩ := h1
    unfold slp
    split
    · rename_i hc
      have : m - k = 0 := by omega
      refine .inr ⟨b, o, cs, c - k, rfl, rfl, by omega, ?_, ?_⟩
      · have : (c - k) * s ≤ c * s := Nat.mul_le_mul_right _ (by omega)
        omega
      · rw [this, Nat.zero_mul, List.take_zero, ← h5, List.drop_eq_nil_of_le]
        rw [List.length_take]
        have : m * s ≤ k * s := Nat.mul_le_mul_right _ (by omega)
        omega
    · refine .inr ⟨b, o + k * s, cs, c - k, by rw [Option.map_some, add_zero'], rfl, by omega, ?_, ?_⟩
      · have : (c - k) * s + k * s = c * s := by rw [← Nat.add_mul]; congr 1; omega
        omega
      · rw [← h5, List.drop_take, List.drop_drop, ← Nat.sub_mul]
section
variable {P : Program} (w : World)
theorem run_append_roomAt (t ty e : TypeId) (i : TypeInfo) (ht : P.underlying t = some (.slice e)) (hi : P.info? e = some i)
    (b off sLen sCap : Nat) (cur : Array Value) (hg : w.heap[b]? = some (.cells cur e (0, 0))) (a : Addr) (m c : Nat) (news : List Value) (hl : news.length = m * i.size) (hnews : ∀ j u, news[j]? = some u → w.cell? (a.add j) = some u) (h1 : ∀ u ∈ news, u.oneCell' = true)
    (hroom : sLen + m ≤ sCap) (hfit : off + sLen * i.size + news.length ≤ cur.size) :
    (Builtin.append_ #[t, t] ty #[.slice (some ⟨b, off, none⟩) sLen sCap, .slice (some a) m c]).run P w = .ok (.slice (some ⟨b, off, none⟩) (sLen + m) sCap) (w.setRow b (cur.toList.take (off + sLen * i.size) ++ news ++ cur.toList.drop (off + sLen * i.size + news.length)).toArray) := by
  have hfc := run_firstCells_some (P := P) w i.size m a m c news hl hnews
  have hst := run_storeCells_at P b (off + sLen * i.size) e news 0 cur w hg (by omega) h1
  simp only [Nat.add_zero] at hst
  simp [Builtin.append_, run_underlying ht, sizeOf, typeInfo, hi, Builtin.lenOf, hroom, hfc, Addr.add_lit, hst]
end
theorem take_mid {α : Type} (cs : List α) (o n : Nat) (xs news : List α) (hx : (cs.drop o).take n = xs) (hn : xs.length = n) (ho : o + n ≤ cs.length) :
    ((cs.take (o + n) ++ news ++ cs.drop (o + n + news.length)).drop o).take (n + news.length) = xs ++ news := by
  have e : cs.take (o + n) = cs.take o ++ xs := by rw [List.take_add, hx]
  have hl : (cs.take o).length = o := by rw [List.length_take]; omega
  rw [e, List.append_assoc, List.append_assoc, List.drop_left' hl, ← List.append_assoc, List.take_left' (by rw [List.length_append, hn])]
section
variable {P : Program} {W : World} {n : Nat} {L : List Blk} {E : List (Nat × Value)} {Q : Exit → Act → World → Prop} {d : Option Nat} {t : TypeId} {pos : String} {after : Array Edge} {g : Option (Nat × Bool)} {K : Value → List Blk → Prop}
theorem ef_appendQ (A R l : List Blk) {T e s bt : Nat} {z : Value} {x y : Operand} {v : Value} {m k c : Nat} {p : Option Addr} {xs news : List Value} [hT : Sl P T e] [hI : Inf P e z s bt]
    (hx : ev E x = some v) (hy : ev E y = some (.slice p k c)) (hO : SlQ s e v m xs l) (hL : L = A ++ (l ++ R)) (hsrc : Rs W L p news) (hk : news.length = k * s) (h1a : news.all (·.oneCell') = true) (hs : 0 < s)
    (hfit : (m + k) * bt ≤ 140737488355328) (hsm : m + k ≤ 9223372036854775807) (hK : ∀ v' l', SlQ s e v' (m + k) (xs ++ news) l' → K v' (A ++ (l' ++ R))) :
    EF P W n L E ⟨d, .call ⟨.builtin .append, #[x, y], #[T, T]⟩, t, pos, after, g⟩ K := by
  have hxl := hO.len
  rcases hO with ⟨rfl, rfl, rfl, rfl⟩ | ⟨b, o, cs, cap, rfl, rfl, hmc, hcs, htk⟩
  · exact ef_append A R [] hx hy SlO.nil hL hsrc hk h1a hs hfit hsm fun v' l' h => hK v' l' h.q
  have h1 : ∀ u ∈ news, u.oneCell' = true := List.all_eq_true.1 h1a
  refine ⟨fun a w ha hw => ?_⟩
  have hrun : (execOp a.eval ⟨d, .call ⟨.builtin .append, #[x, y], #[T, T]⟩, t, pos, after, g⟩).run P w = ((Builtin.append_ #[T, T] t #[.slice (some ⟨b, o, none⟩) m cap, .slice p k c]).run P w).andThen fun v w => .ok (.value v) w := by
    simp [execOp, resolve, invoke, builtin, ha.eval hx, ha.eval hy]
  rw [hrun]
  obtain ⟨i, hi1, hi2, hi3, hi4, hzz⟩ := hI.h
  subst hi3; subst hi4
  by_cases hk0 : k = 0
  · subst hk0
    have hn : news = [] := List.eq_nil_of_length_eq_zero (by simpa using hk)
    subst hn
    rw [run_append_zero (some ⟨b, o, none⟩) p m cap c w hmc]
    refine ⟨_, hw, ?_⟩
    rw [hL]
    exact hK _ _ (.inr ⟨b, o, cs, cap, rfl, rfl, hmc, hcs, by simpa using htk⟩)
  · have hpos : 0 < news.length := by rw [hk]; exact Nat.mul_pos (by omega) hs
    obtain ⟨b0, o0, hp, _⟩ := hsrc 0 _ (List.getElem?_eq_getElem hpos)
    subst hp
    have hnews : ∀ (w' : World), Hp W w' L → ∀ j u, news[j]? = some u → w'.cell? ((⟨b0, o0, none⟩ : Addr).add j) = some u := fun w' hw' j u hj => by
      obtain ⟨b', o', hbo, hc⟩ := hsrc j u hj
      simp only [Option.some.injEq, Addr.mk.injEq] at hbo
      obtain ⟨rfl, rfl, _⟩ := hbo
      rw [add_zero']; exact hc.get hw'
    have hw2 := hw
    rw [hL] at hw2
    by_cases hroom : m + k ≤ cap
    · have hmk : (m + k) * i.size ≤ cap * i.size := Nat.mul_le_mul_right _ hroom
      rw [Nat.add_mul] at hmk
      have hfit' : o + m * i.size + news.length ≤ cs.size := by rw [hk]; omega
      have hr := run_append_roomAt (P := P) w T t e i hT.h hi1 b o m cap cs hw2.mid ⟨b0, o0, none⟩ k c news hk (hnews w hw) h1 hroom hfit'
      rw [hr]
      refine ⟨_, hw2.turnAt rfl rfl rfl (setRow_heap w b cs _ e (0, 0) hw2.mid) (fun q hq => setRow_other w b q _ hq), hK _ [(b, .cells (cs.toList.take (o + m * i.size) ++ news ++ cs.toList.drop (o + m * i.size + news.length)).toArray e (0, 0))] (.inr ⟨b, o, _, cap, rfl, rfl, hroom, ?_, ?_⟩)⟩
      · simp only [List.size_toArray, List.length_append, List.length_take, List.length_drop, Array.length_toList]
        omega
      · rw [Nat.add_mul, ← hk]
        exact take_mid _ _ _ _ _ htk hxl (by rw [Array.length_toList]; omega)
    · have holds : ∀ j u, xs[j]? = some u → w.cell? ((⟨b, o, none⟩ : Addr).add j) = some u := fun j u hj => by
        rw [add_zero']
        have hR : Rs W L (some ⟨b, o, none⟩) xs := SlQ.rs (s := i.size) (e := e) (m := m) (c := cap) (l := [(b, .cells cs e (0, 0))]) (.inr ⟨b, o, cs, cap, rfl, rfl, hmc, hcs, htk⟩) (by rw [hL]; simp)
        obtain ⟨b', o', hbo, hc⟩ := hR j u hj
        simp only [Option.some.injEq, Addr.mk.injEq] at hbo
        obtain ⟨rfl, rfl, _⟩ := hbo
        exact hc.get hw
      have hr := run_append_grow (P := P) w T t e i z hT.h hi1 hi2 ⟨b, o, none⟩ m cap xs hxl holds ⟨b0, o0, none⟩ k c news hk (hnews w hw) (by omega) (by omega) (growslice_fits (by omega) hfit)
      rw [hr]
      have hge := grownCap_ge w (m + k) cap e
      have hO' : SlO i.size e (.slice (some ⟨w.heap.size, 0, none⟩) (m + k) (grownCap w (m + k) cap e)) (m + k) (xs ++ news) [(w.heap.size, .cells (xs.toArray ++ news.toArray ++ Builtin.zeroCells z.cells (grownCap w (m + k) cap e - (m + k))) e (0, 0))] := by
        refine .inr ⟨w.heap.size, _, grownCap w (m + k) cap e, rfl, rfl, by omega, ?_, ?_⟩
        · simp only [Array.size_append, List.size_toArray, size_zeroCells, hk, hxl]
          rw [hzz, ← Nat.add_mul, ← Nat.add_mul]
          congr 1
          omega
        · have : (m + k) * i.size = (xs ++ news).length := by rw [List.length_append, hxl, hk, Nat.add_mul]
          rw [this]
          simp only [Array.toList_append, List.append_assoc]
          rw [← List.append_assoc]
          exact List.take_left
      refine ⟨_, ((hw2.drew.alloc _).sub (L' := (w.heap.size, .cells (xs.toArray ++ news.toArray ++ Builtin.zeroCells z.cells (grownCap w (m + k) cap e - (m + k))) e (0, 0)) :: (A ++ R)) ?_).perm ?_, hK _ _ hO'.q⟩
      · refine List.Sublist.cons_cons _ ?_
        exact (List.Sublist.refl A).append (by simp)
      · simp only [List.singleton_append]
        exact List.perm_middle.symm
/-- One element of an owned row is written. -/
theorem ef_storeQ (A R : List Blk) {T m b o i cap : Nat} {x y : Operand} {v : Value} {xs : List Value} {k : Nat} {e : TypeId} {l : List Blk} {p : Option Addr} [hS : Ts P T m] (hO : SlQ m e (.slice p k cap) k xs l) (hx : ev E x = some (.pointer (some ⟨b, o + i * m, none⟩))) (hb : p = some ⟨b, o, none⟩) (hik : i < k) {vs : List Value} (hy : ev E y = some (.agg vs.toArray))
    (hv1 : vs.all (·.oneCell') = true) (hvm : vs.length = m)
    (hL : L = A ++ (l ++ R)) (hK : ∀ l', SlQ m e (.slice p k cap) k (xs.take (i * m) ++ vs ++ xs.drop ((i + 1) * m)) l' → K undef (A ++ (l' ++ R))) : EF P W n L E ⟨d, .store T x y, t, pos, after, g⟩ K := by
  have hxl := hO.len
  rcases hO with ⟨h1, rfl, rfl, rfl⟩ | ⟨b', o', cs, cap', h1, rfl, h3, h4, h5⟩
  · omega
  · subst hb
    simp only [Value.slice.injEq, Option.some.injEq, Addr.mk.injEq, true_and, and_true] at h1
    obtain ⟨⟨rfl, rfl⟩, rfl⟩ := h1
    have e1 : (i + 1) * m ≤ k * m := Nat.mul_le_mul_right _ (by omega)
    have e2 : k * m ≤ cap * m := Nat.mul_le_mul_right _ h3
    have e3 : (i + 1) * m = i * m + m := by rw [Nat.add_mul, Nat.one_mul]
    refine ef_storeN A R hx hy hv1 hvm (by rw [hL]; rfl) (by omega) (hK [_] (.inr ⟨b, o, _, cap, rfl, rfl, h3, ?_, ?_⟩))
    · simp only [List.size_toArray, List.length_append, List.length_take, List.length_drop, Array.length_toList]
      omega
    · have hl : (cs.toList.take o).length = o := by rw [List.length_take, Array.length_toList]; omega
      have ex : cs.toList.drop o = xs ++ cs.toList.drop (o + k * m) := by
        rw [← h5, ← List.drop_drop, List.take_append_drop]
      have ea : cs.toList.take (o + i * m) = cs.toList.take o ++ xs.take (i * m) := by
        rw [List.take_add, ex, List.take_append_of_le_length (by omega)]
      have eb : cs.toList.drop (o + i * m + vs.length) = xs.drop ((i + 1) * m) ++ cs.toList.drop (o + k * m) := by
        rw [hvm, Nat.add_assoc, ← e3, ← List.drop_drop, ex, List.drop_append_of_le_length (by omega)]
      simp only []
      rw [ea, eb]
      simp only [List.append_assoc]
      rw [List.drop_left' hl]
      have : (xs.take (i * m) ++ (vs ++ xs.drop ((i + 1) * m))).length = k * m := by
        simp only [List.length_append, List.length_take, List.length_drop, hxl]; omega
      rw [← List.append_assoc vs, ← List.append_assoc, List.take_left' this]
end
end Go.Proofs.YtmdeajdaeihniaaGreat.X
/-
  Words of my own for walks, twenty-seventh part: structs of numbers and truths, compared. No condition; generic over the program.
-/
namespace Go.Proofs.YtmdeajdaeihniaaGreat.X
open Go Go.RowKit
set_option linter.unusedVariables false
set_option linter.unusedSimpArgs false
section
variable {P : Program}
inductive FlatV (P : Program) (xs ys : Array Value) : List (String × Nat × Nat) → List Value → List Value → Prop
  | nil : FlatV P xs ys [] [] []
  | int {nm : String} {T off : Nat} {k : IntKind} {a b : Int} {ms : List (String × Nat × Nat)} {us vs : List Value} [hA : Ta P T false] [hI : Ik P T k] (hn : nm ≠ "_") (hx : xs[off]? = some (.int k a)) (hy : ys[off]? = some (.int k b)) (h : FlatV P xs ys ms us vs) : FlatV P xs ys ((nm, T, off) :: ms) (.int k a :: us) (.int k b :: vs)
  | bool {nm : String} {T off : Nat} {a b : Bool} {ms : List (String × Nat × Nat)} {us vs : List Value} [hA : Ta P T false] [hI : Bo P T] (hn : nm ≠ "_") (hx : xs[off]? = some (.bool a)) (hy : ys[off]? = some (.bool b)) (h : FlatV P xs ys ms us vs) : FlatV P xs ys ((nm, T, off) :: ms) (.bool a :: us) (.bool b :: vs)
theorem eqFields_flat (w : World) (d : Nat) {xs ys : Array Value} {ms : List (String × Nat × Nat)} {us vs : List Value} (h : FlatV P xs ys ms us vs) : ∀ fs : List Field, fs.map (fun f => (f.name, f.type, f.offset)) = ms →
    ∃ r, (Op.eqFields (d + 1) xs ys fs).run P w = .ok r w ∧ (r = true ↔ us = vs) := by
  induction h with
  | nil =>
    intro fs hf
    have : fs = [] := by simpa using hf
    subst this
    exact ⟨true, by simp [Op.eqFields], by simp⟩
  | @int nm T off k a b ms us vs hA hI hn hx hy h ih =>
    intro fs hf
    obtain ⟨f, fs, rfl, hf1, hf2⟩ := List.map_eq_cons_iff.1 hf
    simp only [Prod.mk.injEq] at hf1
    obtain ⟨rfl, rfl, rfl⟩ := hf1
    obtain ⟨r, hr, hi⟩ := ih fs hf2
    have hB := hA.h w
    have he := run_equalIn_int w d f.type k k a b hI.h
    by_cases hab : a = b
    · subst hab
      refine ⟨r, ?_, by simp [hi]⟩
      simp [Op.eqFields, hn, part, hB, hx, hy, he, hr]
    · refine ⟨false, ?_, by simp [hab]⟩
      simp [Op.eqFields, hn, part, hB, hx, hy, he, hab]
  | @bool nm T off a b ms us vs hA hI hn hx hy h ih =>
    intro fs hf
    obtain ⟨f, fs, rfl, hf1, hf2⟩ := List.map_eq_cons_iff.1 hf
    simp only [Prod.mk.injEq] at hf1
    obtain ⟨rfl, rfl, rfl⟩ := hf1
    obtain ⟨r, hr, hi⟩ := ih fs hf2
    have hB := hA.h w
    have he := run_equalIn_bool w d f.type a b hI.h
    by_cases hab : a = b
    · subst hab
      refine ⟨r, ?_, by simp [hi]⟩
      simp [Op.eqFields, hn, part, hB, hx, hy, he, hr]
    · refine ⟨false, ?_, by simp [hab]⟩
      have : (a == b) = false := by simpa using hab
      simp [Op.eqFields, hn, part, hB, hx, hy, he, this]
/-- What it takes to compare two such structs. -/
structure EqS (P : Program) (T : Nat) (us vs : List Value) (r : Bool) : Prop where
  h : ∀ w, (Op.equalIn 10000 T (.agg us.toArray) (.agg vs.toArray)).run P w = .ok r w
  g : P.eqGuardType P.depth T = false
theorem EqS.of {T : Nat} {us vs : List Value} {r : Bool} (ms : List (String × Nat × Nat)) (ht : P.underlying T = some (.struct (P.fieldsOf T))) (hp : P.stoodInHeld T = false) (hm : (P.fieldsOf T).toList.map (fun f => (f.name, f.type, f.offset)) = ms) (hg : P.eqGuardType P.depth T = false)
    (hf : FlatV P us.toArray vs.toArray ms us vs) (hr : r = true ↔ us = vs) : EqS P T us vs r := by
  refine ⟨fun w => ?_, hg⟩
  rw [run_equalIn_struct w 9999 T _ _ ht hp]
  obtain ⟨r', h1, h2⟩ := eqFields_flat w 9998 hf _ hm
  rw [h1]
  have : r' = r := by
    rw [Bool.eq_iff_iff, h2, hr]
  rw [this]
variable {W : World} {n : Nat} {L : List Blk} {E : List (Nat × Value)} {d : Option Nat} {t : TypeId} {pos : String} {after : Array Edge} {g : Option (Nat × Bool)}
theorem rd_eqS {T T' : Nat} {x y : Operand} {us vs : List Value} {r : Bool} (h : EqS P T us vs r) (hx : ev E x = some (.agg us.toArray)) (hy : ev E y = some (.agg vs.toArray)) :
    RD P W n L E ⟨d, .binOp .eql T x y T', t, pos, after, g⟩ (.bool r) := rd_bin hx hy fun w => by
  simp only [Sem.run_bind, run_eqGuard_agg w _ T x y _ _ h.g, Result.andThen_ok, run_eql_struct, h.h w]
theorem rd_neS {T T' : Nat} {x y : Operand} {us vs : List Value} {r : Bool} (h : EqS P T us vs r) (hx : ev E x = some (.agg us.toArray)) (hy : ev E y = some (.agg vs.toArray)) :
    RD P W n L E ⟨d, .binOp .neq T x y T', t, pos, after, g⟩ (.bool (!r)) := rd_bin hx hy fun w => by
  simp only [Sem.run_bind, run_eqGuard_agg w _ T x y _ _ h.g, Result.andThen_ok, run_neq_struct, h.h w]
end
end Go.Proofs.YtmdeajdaeihniaaGreat.X
/-
  Words of my own for walks, twenty-eighth part: cells of an owned row that begins anywhere, written. No condition; generic over the program.
-/
namespace Go.Proofs.YtmdeajdaeihniaaGreat.X
open Go Go.RowKit
set_option linter.unusedVariables false
set_option linter.unusedSimpArgs false
/-- Cells in a row of an own block. -/
theorem cl_sub {W : World} {L : List Blk} {b : Nat} {T : TypeId} {fr : Nat × Nat} {vs sub : List Value} (i : Nat) (h : (b, Obj.cells vs.toArray T fr) ∈ L) (hs : (vs.drop i).take sub.length = sub) : ∀ (j : Nat) (u : Value), sub[j]? = some u → Cl W L b (i + j) u := fun j u hj => by
  refine Cl.own h ?_
  rw [← hs, List.getElem?_take] at hj
  split at hj
  · rw [List.getElem?_drop] at hj
    simpa using hj
  · cases hj
section
variable {P : Program} {W : World} {n : Nat} {L : List Blk} {E : List (Nat × Value)} {Q : Exit → Act → World → Prop} {d : Option Nat} {t : TypeId} {pos : String} {after : Array Edge} {g : Option (Nat × Bool)} {K : Value → List Blk → Prop}
/-- One cell of an owned row is written. -/
theorem ef_storeQ1 (A R : List Blk) (j : Nat) {T m b o c cap : Nat} {x y : Operand} {v : Value} {xs : List Value} {k : Nat} {e : TypeId} {l : List Blk} {p : Option Addr} [hS : Ts P T 1] (hO : SlQ m e (.slice p k cap) k xs l) (hx : ev E x = some (.pointer (some ⟨b, c, none⟩))) (hc : c = o + j) (hb : p = some ⟨b, o, none⟩) (hy : ev E y = some v)
    (hv1 : v.oneCell' = true) (hj : j < k * m)
    (hL : L = A ++ (l ++ R)) (hK : ∀ l', SlQ m e (.slice p k cap) k (xs.set j v) l' → K undef (A ++ (l' ++ R))) : EF P W n L E ⟨d, .store T x y, t, pos, after, g⟩ K := by
  have hxl := hO.len
  subst hc
  rcases hO with ⟨h1, h2, rfl, rfl⟩ | ⟨b', o', cs, cap', h1, rfl, h3, h4, h5⟩
  · subst hb
    simp only [Value.slice.injEq] at h1
    obtain ⟨h1, _⟩ := h1
    cases h1
  · subst hb
    simp only [Value.slice.injEq, Option.some.injEq, Addr.mk.injEq, true_and, and_true] at h1
    obtain ⟨⟨rfl, rfl⟩, rfl⟩ := h1
    have e2 : k * m ≤ cap * m := Nat.mul_le_mul_right _ h3
    have hlt : o + j < cs.toList.length := by rw [Array.length_toList]; omega
    refine ef_store1 A R (vs := cs.toList) hx hy hv1 rfl (by rw [hL]; rfl) (List.getElem?_eq_getElem hlt) (hK [_] (.inr ⟨b, o, _, cap, rfl, rfl, h3, ?_, ?_⟩))
    · simp only [List.size_toArray, List.length_set, Array.length_toList]; exact h4
    · simp only []
      rw [← h5, List.drop_set, if_neg (by omega), List.take_set]
      congr 1; omega
/-- A few cells of a block are written; what then stands there is named. -/
theorem ef_storeW (A R : List Blk) (i : Nat) {T T' m b : Nat} {x y : Operand} {vs cs ws : List Value} [hS : Ts P T m] (hx : ev E x = some (.pointer (some ⟨b, i, none⟩))) (hy : ev E y = some (.agg vs.toArray)) (h1a : vs.all (·.oneCell') = true) (hm : vs.length = m)
    (hL : L = A ++ (b, .cells cs.toArray T' (0, 0)) :: R) (hi : i + m ≤ cs.length) (hw : cs.take i ++ vs ++ cs.drop (i + vs.length) = ws) (hk : K undef (A ++ (b, .cells ws.toArray T' (0, 0)) :: R)) : EF P W n L E ⟨d, .store T x y, t, pos, after, g⟩ K :=
  ef_storeN A R hx hy h1a hm hL (by simpa using hi) (by subst hw; simpa using hk)
theorem SlQ.pre {s : Nat} {e : TypeId} {p : Option Addr} {m c : Nat} {xs : List Value} {l : List Blk} (h : SlQ s e (.slice p m c) m xs l) (k : Nat) (hk : k ≤ m) : SlQ s e (.slice p k c) k (xs.take (k * s)) l := by
  rcases h with ⟨h1, rfl, rfl, rfl⟩ | ⟨b, o, cs, cap, h1, rfl, h3, h4, h5⟩
  · simp only [Value.slice.injEq] at h1
    obtain ⟨rfl, _, rfl⟩ := h1
    have : k = 0 := by omega
    subst this
    exact .inl ⟨rfl, rfl, by simp, rfl⟩
  · simp only [Value.slice.injEq, true_and] at h1
    obtain ⟨rfl, rfl⟩ := h1
    refine .inr ⟨b, o, cs, c, rfl, rfl, by omega, h4, ?_⟩
    rw [← h5, List.take_take, Nat.min_eq_left (Nat.mul_le_mul_right _ hk)]
/-- What lies behind an owned row is cleared. -/
theorem ef_clearQ (A R l : List Blk) {T e s bt : Nat} {z : Value} {x : Operand} {m k cap b o : Nat} {xs : List Value} [hT : Sl P T e] [hI : Inf P e z s bt]
    (hO : SlQ s e (.slice (some ⟨b, o, none⟩) k cap) k xs l) (hx : ev E x = some (.slice (slp (some ⟨b, o, none⟩) cap k s) m (cap - k))) (hL : L = A ++ (l ++ R)) (hm : 0 < m) (hfit : k + m ≤ cap) (hz1 : z.cells.all (·.oneCell') = true)
    (hK : ∀ l', SlQ s e (.slice (some ⟨b, o, none⟩) k cap) k xs l' → K (.tuple #[]) (A ++ (l' ++ R))) : EF P W n L E ⟨d, .call ⟨.builtin .clear, #[x], #[T]⟩, t, pos, after, g⟩ K := by
  rcases hO with ⟨h0, _⟩ | ⟨b', o', cs, cap', h0, rfl, hmc, hcs, htk⟩
  · cases h0
  simp only [Value.slice.injEq, Option.some.injEq, Addr.mk.injEq, true_and, and_true] at h0
  obtain ⟨⟨rfl, rfl⟩, rfl⟩ := h0
  have hsp : slp (some ⟨b, o, none⟩) cap k s = some ⟨b, o + k * s, none⟩ := by
    unfold slp; rw [if_neg (by omega), Option.map_some, add_zero']
  rw [hsp] at hx
  have e2 : (k + m) * s ≤ cap * s := Nat.mul_le_mul_right _ hfit
  rw [Nat.add_mul] at e2
  refine ef_clear A R (s := s) hx (by rw [hL]; rfl) hm (by omega) hz1 fun cs' hc1 hc2 => hK [_] (.inr ⟨b, o, cs', cap, rfl, rfl, hmc, by omega, ?_⟩)
  have e3 : (cs'.toList.drop o).take (k * s) = ((cs'.toList.take (o + k * s)).drop o) := by
    rw [List.drop_take, Nat.add_sub_cancel_left]
  have e4 : (cs.toList.drop o).take (k * s) = ((cs.toList.take (o + k * s)).drop o) := by
    rw [List.drop_take, Nat.add_sub_cancel_left]
  rw [e3, hc2, ← e4, htk]
/-- append, its answer opened. -/
theorem ef_appendQS (A R l : List Blk) {T e s bt : Nat} {z : Value} {x y : Operand} {v : Value} {m k c : Nat} {p : Option Addr} {xs news : List Value} [hT : Sl P T e] [hI : Inf P e z s bt]
    (hx : ev E x = some v) (hy : ev E y = some (.slice p k c)) (hO : SlQ s e v m xs l) (hL : L = A ++ (l ++ R)) (hsrc : Rs W L p news) (hk : news.length = k * s) (h1a : news.all (·.oneCell') = true) (hs : 0 < s)
    (hfit : (m + k) * bt ≤ 140737488355328) (hsm : m + k ≤ 9223372036854775807) (hK : ∀ s' k' l', SlQ s e (.slice s' (m + k) k') (m + k) (xs ++ news) l' → m + k ≤ k' → K (.slice s' (m + k) k') (A ++ (l' ++ R))) :
    EF P W n L E ⟨d, .call ⟨.builtin .append, #[x, y], #[T, T]⟩, t, pos, after, g⟩ K :=
  ef_appendQ A R l hx hy hO hL hsrc hk h1a hs hfit hsm fun v' l' h => by
    obtain ⟨s', k', rfl, h', hc⟩ := h.opn
    exact hK s' k' l' h' hc
end
end Go.Proofs.YtmdeajdaeihniaaGreat.X
/-
  Words of my own for walks: a range over a map; calls of function values of which the answer is known. No condition; generic over the program.
-/
namespace Go.Proofs.YtmdeajdaeihniaaGreat.X
open Go Go.RowKit
set_option linter.unusedVariables false
set_option linter.unusedSimpArgs false
theorem ef_callk {P : Program} {W : World} {n : Nat} {L : List Blk} {E : List (Nat × Value)} {d : Option Nat} {t : TypeId} {pos : String} {after : Array Edge} {g : Option (Nat × Bool)} {K : Value → List Blk → Prop} {f : Nat} {x : Operand} {args : List Operand} {ts : Array TypeId} {vs first cap : List Value} {r : Value} [hC : Cf P f] (hx : ev E x = some (.func (.func f) first.toArray cap.toArray)) (h : evs E args = some vs) (hf : XF P W f (first ++ vs ++ cap).toArray L (fun v L' => v = r ∧ L' = L)) (hk : K r L) :
    EF P W n L E ⟨d, .call ⟨.value x, args.toArray, ts⟩, t, pos, after, g⟩ K := ef_callv hx h (hf.mono fun v L' hv => by rw [hv.1, hv.2]; exact hk)

/-- A map that is ranged over, and where the range stands: left: the keys still to come; cur: the one at hand. -/
def MpR (k : IntKind) (m : Nat) (o it : Obj) (f : Int → Option Value) (sz : Nat) (left : List Int) (cur : Option Int) : Prop :=
  ∃ (l : List (Int × Value × Nat)) (c : Nat) (seen : Array Nat), o = .map (ments k l) c ∧ it = .mapIter (some m) c seen c ∧ (l.map (·.1)).Nodup ∧ l.length = sz ∧ (∀ n, mfind l n = f n) ∧ (l.map (·.2.2)).Nodup ∧ (∀ e, e ∈ l → e.2.2 < c) ∧
    (∀ e, e ∈ l → (seen.contains e.2.2 = false ↔ e.1 ∈ left)) ∧ (∀ n, n ∈ left → n ∈ l.map (·.1)) ∧ left.Nodup ∧ (∀ n, cur = some n → ∃ v b, (n, v, b) ∈ l ∧ seen.back? = some b)
theorem MpR.is {k : IntKind} {m : Nat} {o it : Obj} {f : Int → Option Value} {sz : Nat} {left : List Int} {cur : Option Int} (h : MpR k m o it f sz left cur) : MpIs k o f sz := by
  obtain ⟨l, c, seen, h1, _, h3, h4, h5, h6, h7, _⟩ := h
  exact ⟨l, c, h1, h3, h4, h5, h6, h7⟩
theorem mfind_mem : ∀ {l : List (Int × Value × Nat)} (hn : (l.map (·.1)).Nodup) {e : Int × Value × Nat}, e ∈ l → mfind l e.1 = some e.2.1
  | x :: r, hn, e, h => by
    rw [List.map_cons, List.nodup_cons] at hn
    rw [mfind_cons]
    rcases List.mem_cons.1 h with rfl | h
    · simp
    · have : ¬ e.1 = x.1 := fun e' => hn.1 (e' ▸ List.mem_map.2 ⟨e, h, rfl⟩)
      rw [if_neg this]; exact mfind_mem hn.2 h
theorem mfind_some : ∀ {l : List (Int × Value × Nat)} {n : Int} {v : Value}, mfind l n = some v → n ∈ l.map (·.1)
  | x :: r, n, v, h => by
    rw [mfind_cons] at h
    split at h
    · rename_i e; subst e; simp
    · exact List.mem_cons_of_mem _ (mfind_some h)
section
variable {P : Program} {W : World} {n : Nat} {L : List Blk} {E : List (Nat × Value)} {d : Option Nat} {t : TypeId} {pos : String} {after : Array Edge} {g : Option (Nat × Bool)} {K : Value → List Blk → Prop}
theorem ef_range {T kt et r : Nat} {x : Operand} {k : IntKind} {o : Obj} {f : Int → Option Value} {sz : Nat} [hT : Mp P T kt et] (hm : MpIs k o f sz) (hx : ev E x = some (.map (some r))) (hKn : Kn W L r o)
    (hK : ∀ b it left, MpR k r o it f sz left none → left.length = sz → (∀ n, n ∈ left ↔ (f n).isSome = true) → K (.pointer (some ⟨b, 0, none⟩)) ((b, it) :: L)) : EF P W n L E ⟨d, .range T x, t, pos, after, g⟩ K := by
  refine ⟨fun a w ha hw => ?_⟩
  obtain ⟨l, c, rfl, hnd, hsz, hf, hbn, hbc⟩ := hm
  have h1 := run_range_map (P := P) w T kt et r (ments k l) c hT.h (hKn.get hw)
  have hrun : (execOp a.eval ⟨d, .range T x, t, pos, after, g⟩).run P w = .ok (.value (.pointer (some ⟨w.heap.size, 0, none⟩))) (w.alloc (.mapIter (some r) c #[] c)) := by
    simp only [execOp, ha.eval hx, Sem.run_bind, h1, Result.andThen_ok]
    rfl
  rw [hrun]
  refine ⟨_, hw.alloc _, hK _ _ (l.map (·.1)) ⟨l, c, #[], rfl, rfl, hnd, hsz, hf, hbn, hbc, ?_, fun n hn => hn, hnd, fun n h => by cases h⟩ (by rw [List.length_map, hsz]) fun n => ?_⟩
  · intro e he
    simp only [List.mem_map]
    exact ⟨fun _ => ⟨e, he, rfl⟩, fun _ => by simp⟩
  · constructor
    · intro h
      obtain ⟨e, he, rfl⟩ := List.mem_map.1 h
      rw [← hf, mfind_mem hnd he]; rfl
    · intro h
      rw [← hf] at h
      obtain ⟨v, hv⟩ := Option.isSome_iff_exists.1 h
      exact mfind_some hv
theorem run_chooseMap (n : Nat) (hn : 0 < n) (w : World) : ∃ (j : Nat) (w1 : World), j < n ∧ (w1 = w ∨ w1 = { w with drawn := w.drawn + 1 }) ∧ (choose (Question.mapNext n)).run P w = .ok j w1 := by
  by_cases hf : n ≤ 1
  · exact ⟨0, w, by omega, .inl rfl, by simp [choose, Sem.run, Question.forced, hf]⟩
  · exact ⟨_, w.drew, Nat.mod_lt _ (by omega), .inr rfl, by
      simp only [choose, Sem.run, Question.forced, decide_eq_true_eq, hf, if_false, Question.cut]
      rfl⟩
theorem run_nextMap (w : World) (ty : TypeId) (b bm c : Nat) (seen : Array Nat) (es : Array MapEntry) (hi : w.heap[b]? = some (.mapIter (some bm) c seen c)) (hb : w.heap[bm]? = some (.map es c)) (hold : ∀ x ∈ es.toList, x.born < c) :
    ((leftOf es seen).size = 0 ∧ (Instr.next (.pointer (some ⟨b, 0, none⟩)) false ty).run P w = .ok (.tuple #[.bool false]) w) ∨
    ∃ e ∈ (leftOf es seen).toList, ∃ w1 : World, (w1 = w ∨ w1 = { w with drawn := w.drawn + 1 }) ∧ (Instr.next (.pointer (some ⟨b, 0, none⟩)) false ty).run P w = .ok (.tuple #[.bool true, e.key, e.val]) { w1 with heap := w1.heap.setIfInBounds b (.mapIter (some bm) c (seen.push e.born) c) } := by
  simp only [Instr.next, getObj, Sem.run_bind, Sem.run, hi, hb, Result.andThen, next_test_false seen es c c hold (Nat.le_refl _), Bool.false_eq_true, if_false]
  unfold leftOf
  have hmem : ∀ x ∈ (Array.filter (fun e => !seen.contains e.born) es).toList, x.born < c := fun x hx => hold x (by simp at hx ⊢; exact hx.1)
  generalize Array.filter (fun e => !seen.contains e.born) es = L at hmem ⊢
  have e1 : L.filter (fun x => decide (x.born < c)) = L := Array.filter_eq_self.2 (fun x hx => by simpa using hmem x (by simpa using hx))
  have e2 : L.filter (fun x => decide (x.born ≥ c)) = #[] := by
    rw [Array.filter_eq_empty_iff]
    intro x hx
    have := hmem x (by simpa using hx)
    simp
    omega
  simp only [e1, e2, Array.append_empty]
  by_cases h0 : L.size = 0
  · left
    have : L = #[] := Array.eq_empty_of_size_eq_zero h0
    subst this
    refine ⟨rfl, ?_⟩
    simp [choose, Sem.run, Question.forced]
  · right
    have hne : L.isEmpty = false := by simp [Array.isEmpty, h0]
    simp only [hne, Bool.false_eq_true, if_false, Array.empty_append, Array.size_map]
    obtain ⟨j, w1, hj, hal, hrun⟩ := run_chooseMap (P := P) L.size (by omega) w
    refine ⟨L[j], by simp, w1, hal, ?_⟩
    have hh : w1.heap = w.heap := by rcases hal with rfl | rfl <;> rfl
    have hset : ∀ o' : Obj, (setObj b o').run P w1 = .ok () { w1 with heap := w1.heap.setIfInBounds b o' } := fun o' => by
      simp only [setObj, Sem.run, hh, hi]
    simp only [hrun, Array.getElem?_map, Array.getElem?_eq_getElem hj, Option.map_some, Sem.run_bind, hset, Result.andThen]
    rfl
theorem ef_next (A R : List Blk) {b m : Nat} {x : Operand} {k : IntKind} {o it : Obj} {f : Int → Option Value} {sz : Nat} {left : List Int} {cur : Option Int} (hm : MpR k m o it f sz left cur) (hx : ev E x = some (.pointer (some ⟨b, 0, none⟩))) (hL : L = A ++ (b, it) :: R) (hKn : Kn W L m o)
    (h0 : left = [] → K (.tuple #[.bool false]) L) (h1 : ∀ n v it', n ∈ left → f n = some v → MpR k m o it' f sz (left.erase n) (some n) → K (.tuple #[.bool true, .int k n, v]) (A ++ (b, it') :: R)) : EF P W n L E ⟨d, .next x false, t, pos, after, g⟩ K := by
  refine ⟨fun a w ha hw => ?_⟩
  obtain ⟨l, c, seen, rfl, rfl, hnd, hsz, hf, hbn, hbc, hsn, hlk, hln, hcur⟩ := hm
  have hi : w.heap[b]? = some (.mapIter (some m) c seen c) := by subst hL; exact hw.mid
  have hb := hKn.get hw
  have hex : ∀ u w', (Instr.next (.pointer (some ⟨b, 0, none⟩)) false t).run P w = .ok u w' → (execOp a.eval ⟨d, .next x false, t, pos, after, g⟩).run P w = .ok (.value u) w' := fun u w' h => by
    simp only [execOp, ha.eval hx, Sem.run_bind, h, Result.andThen_ok]
    rfl
  rcases run_nextMap (P := P) w t b m c seen (ments k l) hi hb (fun y hy => by
    simp only [ments, List.mem_map] at hy
    obtain ⟨e, he, rfl⟩ := hy
    exact hbc e he) with ⟨hz, hr⟩ | ⟨e, he, w1, hw1, hr⟩
  · rw [hex _ _ hr]
    refine ⟨L, hw, h0 ?_⟩
    refine List.eq_nil_iff_forall_not_mem.2 fun q hq => ?_
    obtain ⟨e, he, rfl⟩ := List.mem_map.1 (hlk q hq)
    have h2 := (hsn e he).2 hq
    have h3 : (⟨.int k e.1, e.2.1, e.2.2⟩ : MapEntry) ∈ leftOf (ments k l) seen := by
      unfold leftOf
      refine Array.mem_filter.2 ⟨?_, by simp only [h2]; rfl⟩
      simp only [ments, List.mem_toArray, List.mem_map]
      exact ⟨e, he, rfl⟩
    have h4 : leftOf (ments k l) seen = #[] := Array.eq_empty_of_size_eq_zero hz
    rw [h4] at h3
    cases h3
    rename_i h3; cases h3
  · rw [hex _ _ hr]
    obtain ⟨he1, he2⟩ := mem_left he
    simp only [ments, List.mem_map] at he1
    obtain ⟨q, hq, rfl⟩ := he1
    dsimp only at he2 hr ⊢
    have hw1' : Hp W w1 L := by
      rcases hw1 with rfl | rfl
      · exact hw
      · exact hw.drew
    have hi1 : w1.heap[b]? = some (.mapIter (some m) c seen c) := by rcases hw1 with rfl | rfl <;> exact hi
    have hlt : b < w1.heap.size := (Array.getElem?_eq_some_iff.1 hi1).1
    have hlq := (hsn q hq).1 he2
    refine ⟨A ++ (b, .mapIter (some m) c (seen.push q.2.2) c) :: R, ?_, h1 q.1 q.2.1 _ hlq (by rw [← hf, mfind_mem hnd hq]) ⟨l, c, seen.push q.2.2, rfl, rfl, hnd, hsz, hf, hbn, hbc, ?_, fun z hz => hlk z (List.mem_of_mem_erase hz), hln.erase _, ?_⟩⟩
    · subst hL
      exact hw1'.turnAt rfl rfl rfl (Array.getElem?_setIfInBounds_self_of_lt hlt) (fun q hq => Array.getElem?_setIfInBounds_ne (Ne.symm hq))
    · intro e he
      rw [contains_push, Bool.or_eq_false_iff, hsn e he, hln.mem_erase_iff]
      constructor
      · rintro ⟨h2, h3⟩
        refine ⟨fun e1 => ?_, h2⟩
        have : e = q := by
          have h5 := mfind_mem hnd he
          obtain ⟨i, hi', hie⟩ := List.mem_iff_getElem.1 he
          obtain ⟨j, hj', hje⟩ := List.mem_iff_getElem.1 hq
          have hij : i = j := by
            have := (List.getElem_inj (xs := l.map (·.1)) (i := i) (j := j) (h₀ := by simpa using hi') (h₁ := by simpa using hj') hnd).1 (by simp only [List.getElem_map, hie, hje]; exact e1)
            exact this
          subst hij
          rw [← hie, ← hje]
        subst this
        simp at h3
      · rintro ⟨h2, h3⟩
        refine ⟨h3, ?_⟩
        cases hc : e.2.2 == q.2.2 with
        | false => rfl
        | true =>
          exfalso
          apply h2
          have e1 := eq_of_beq hc
          obtain ⟨i, hi', hie⟩ := List.mem_iff_getElem.1 he
          obtain ⟨j, hj', hje⟩ := List.mem_iff_getElem.1 hq
          have hij : i = j := (List.getElem_inj (xs := l.map (·.2.2)) (i := i) (j := j) (h₀ := by simpa using hi') (h₁ := by simpa using hj') hbn).1 (by simp only [List.getElem_map, hie, hje]; exact e1)
          subst hij
          rw [← hie, ← hje]
    · intro z hz
      cases hz
      exact ⟨q.2.1, q.2.2, hq, by simp⟩
theorem rd_entry {b m : Nat} {x : Operand} {k : IntKind} {o it : Obj} {f : Int → Option Value} {sz : Nat} {left : List Int} {z : Int} {v : Value} (hm : MpR k m o it f sz left (some z)) (hv : f z = some v) (hx : ev E x = some (.pointer (some ⟨b, 0, none⟩))) (hI : Kn W L b it) (hKn : Kn W L m o) :
    RD P W n L E ⟨d, .entry x, t, pos, after, g⟩ (.tuple #[.int k z, v]) := .mk fun a w ha hw => by
  obtain ⟨l, c, seen, rfl, rfl, hnd, hsz, hf, hbn, hbc, hsn, hlk, hln, hcur⟩ := hm
  have h1 := hI.get hw
  have h2 := hKn.get hw
  obtain ⟨v', b', hmem, hbk⟩ := hcur z rfl
  have hvv : v' = v := by
    have := mfind_mem hnd hmem
    rw [hf, hv] at this
    exact (Option.some.inj this).symm
  subst hvv
  have hfd : (ments k l).find? (fun e => e.born == b') = some ⟨.int k z, v', b'⟩ := by
    rw [← Array.find?_toList]
    have hb2 : ((ments k l).toList.map (·.born)).Nodup := by
      simp only [ments, List.map_map]
      exact hbn
    exact find_born ⟨.int k z, v', b'⟩ (ments k l).toList hb2 (by simp only [ments, List.mem_map]; exact ⟨_, hmem, rfl⟩)
  have hr : (Instr.entry (.pointer (some ⟨b, 0, none⟩))).run P w = .ok (.tuple #[.int k z, v']) w := by
    simp only [Instr.entry, getObj, Sem.run_bind, Sem.run, h1, h2, Result.andThen, hbk, bne_self_eq_false, Bool.false_eq_true, if_false, hfd]
    rfl
  simp only [execOp, ha.eval hx, Sem.run_bind, hr, Result.andThen_ok]
  rfl
/-- What is there already is laid anew, within a range. -/
theorem ef_mapUpdateR (A R : List Blk) {T kt et m : Nat} {x y u : Operand} {k : IntKind} {i : Int} {v : Value} {o it : Obj} {f : Int → Option Value} {sz : Nat} {left : List Int} {cur : Option Int} [hT : Mp P T kt et] [hk : Ik P kt k] (hm : MpR k m o it f sz left cur) (hi : (f i).isSome = true) (hx : ev E x = some (.map (some m))) (hy : ev E y = some (.int k i)) (hu : ev E u = some v)
    (hL : L = A ++ (m, o) :: R) (hK : ∀ o', MpR k m o' it (mupd f i (some v)) sz left cur → K undef (A ++ (m, o') :: R)) : EF P W n L E ⟨d, .mapUpdate T x y u, t, pos, after, g⟩ K := by
  refine ⟨fun a w ha hw => ?_⟩
  obtain ⟨l, c, seen, rfl, rfl, hnd, hsz, hf, hbn, hbc, hsn, hlk, hln, hcur⟩ := hm
  subst hL
  have h1 := hw.mid
  have h2 := run_checkKey (P := P) (kt := kt) (k := k) false i w
  have h3 := run_findKey (P := P) (kt := kt) (k := k) i l w
  have h5 : (getObj m).run P w = .ok (.map (ments k l) c) w := by simp [getObj, Sem.run, h1]
  have hset : ∀ o', (setObj m o').run P w = .ok () { w with heap := w.heap.setIfInBounds m o' } := fun o' => by simp [setObj, Sem.run, h1]
  have hlt : m < w.heap.size := (Array.getElem?_eq_some_iff.1 h1).1
  have hturn : ∀ o', Hp W { w with heap := w.heap.setIfInBounds m o' } (A ++ (m, o') :: R) := fun o' =>
    hw.turnAt rfl rfl rfl (Array.getElem?_setIfInBounds_self_of_lt hlt) (fun q hq => Array.getElem?_setIfInBounds_ne (Ne.symm hq))
  have hrun : (execOp a.eval ⟨d, .mapUpdate T x y u, t, pos, after, g⟩).run P w = ((Instr.mapUpdate T (.map (some m)) (.int k i) v).run P w).andThen fun _ w' => .ok .skip w' := by
    simp [execOp, ha.eval hx, ha.eval hy, ha.eval hu]
  rw [hrun]
  simp only [Instr.mapUpdate, Sem.run_bind, run_underlying hT.h, Result.andThen_ok, h5, h2, h3]
  have hfi := hf i
  rw [← midx_find] at hfi
  cases hmi : midx l i with
  | none => rw [hmi] at hfi; rw [← hfi] at hi; cases hi
  | some q =>
    obtain ⟨j, v0⟩ := q
    obtain ⟨b, hb⟩ := midx_some l i j v0 hmi
    have hes : (ments k l)[j]? = some ⟨.int k i, v0, b⟩ := by simp [ments, hb]
    have hkt : (Instr.keyThatStays (((ments k l)[j]?.map (·.key)).getD (.int k i)) (.int k i)).run P w = .ok (.int k i) w := by
      rw [hes]
      simp [Instr.keyThatStays, sameBits_int]
    simp only [Sem.run_bind, hkt, Result.andThen_ok, hset]
    have hk1 : (l.set j (i, v, b)).map (·.1) = l.map (·.1) := by
      apply List.ext_getElem?
      intro q
      simp only [List.getElem?_map, List.getElem?_set]
      by_cases hq : j = q
      · subst hq
        obtain ⟨hj, hv⟩ := List.getElem?_eq_some_iff.1 hb
        simp [hv, hj]
      · simp [hq]
    have hold : (i, v0, b) ∈ l := List.mem_of_getElem? hb
    refine ⟨_, hturn _, hK _ ⟨l.set j (i, v, b), c, seen, ?_, rfl, ?_, by rw [List.length_set, hsz], fun m => ?_, born_set hb hbn, fun e he => ?_, fun e he => ?_, fun z hz => by rw [hk1]; exact hlk z hz, hln, fun z hz => ?_⟩⟩
    · congr 1
      apply Array.ext'
      simp only [ments, Array.toList_modify]
      apply List.ext_getElem?
      intro q
      simp only [List.getElem?_modify, List.getElem?_map, List.getElem?_set]
      by_cases hq : j = q
      · subst hq
        obtain ⟨hj, hv⟩ := List.getElem?_eq_some_iff.1 hb
        simp [hv, hj]
      · simp [hq]
    · rw [hk1]; exact hnd
    · rw [mfind_set l i j v0 v b b hnd hb m, hf m]; rfl
    · rcases List.mem_or_eq_of_mem_set he with he | rfl
      · exact hbc e he
      · exact hbc (i, v0, b) hold
    · rcases List.mem_or_eq_of_mem_set he with he | rfl
      · exact hsn e he
      · exact hsn (i, v0, b) hold
    · obtain ⟨v', b', hmem, hbk⟩ := hcur z hz
      by_cases hzi : z = i
      · subst hzi
        have hbb : b' = b := by
          obtain ⟨i1, hi1, hie⟩ := List.mem_iff_getElem.1 hmem
          obtain ⟨j1, hj1, hje⟩ := List.mem_iff_getElem.1 hold
          have hij : i1 = j1 := (List.getElem_inj (xs := l.map (·.1)) (i := i1) (j := j1) (h₀ := by simpa using hi1) (h₁ := by simpa using hj1) hnd).1 (by simp only [List.getElem_map, hie, hje])
          subst hij
          rw [hie] at hje
          simpa using congrArg (·.2.2) hje
        subst hbb
        have hj := (List.getElem?_eq_some_iff.1 hb).1
        exact ⟨v, b', List.mem_of_getElem? (i := j) (by rw [List.getElem?_set]; simp [hj]), hbk⟩
      · refine ⟨v', b', ?_, hbk⟩
        obtain ⟨q, hq⟩ := List.mem_iff_getElem?.1 hmem
        have hqj : j ≠ q := fun e => by
          subst e
          rw [hb] at hq
          exact hzi (by simpa using (congrArg (·.1) (Option.some.inj hq)).symm)
        exact List.mem_of_getElem? (i := q) (by rw [List.getElem?_set, if_neg hqj]; exact hq)
end
end Go.Proofs.YtmdeajdaeihniaaGreat.X
/-
  Rows of numbers: the first of which something holds; those of which it holds are taken out: walks of my own.
-/
namespace Go.Proofs.YtmdeajdaeihniaaGreat.X
open Go Go.RowKit
set_option linter.unusedVariables false
set_option linter.unusedSimpArgs false
def ixP (pd : Int → Bool) (l : List Int) : Int := match l.findIdx? pd with
  | some i => i
  | none => -1
theorem ixP_some {pd : Int → Bool} {l : List Int} {k : Nat} (hk : k < l.length) (h : pd l[k] = true) (hn : ∀ (i : Nat) (h : i < l.length), i < k → pd l[i] = false) : ixP pd l = k := by
  have : l.findIdx? pd = some k := List.findIdx?_eq_some_iff_getElem.2 ⟨hk, h, fun j hj => by rw [hn j (by omega) hj]; decide⟩
  unfold ixP; rw [this]
theorem ixP_none {pd : Int → Bool} {l : List Int} (hn : ∀ (i : Nat) (h : i < l.length), pd l[i] = false) : ixP pd l = -1 := by
  have : l.findIdx? pd = none := List.findIdx?_eq_none_iff.2 fun x hx => by
    obtain ⟨i, hi, rfl⟩ := List.mem_iff_getElem.1 hx
    exact hn i hi
  unfold ixP; rw [this]
theorem ixP_neg {pd : Int → Bool} {l : List Int} (h : ixP pd l = -1) : (l.filter fun x => !pd x) = l := by
  unfold ixP at h
  cases hf : l.findIdx? pd with
  | none =>
    rw [List.filter_eq_self]
    exact fun x hx => by rw [List.findIdx?_eq_none_iff.1 hf x hx]; rfl
  | some i => rw [hf] at h; dsimp only at h; omega
theorem ixP_pos {pd : Int → Bool} {ns : List Int} (h : ¬ ixP pd ns = -1) : ∃ k : Nat, ixP pd ns = (k : Int) ∧ ∃ hk : k < ns.length, pd ns[k] = true ∧ ∀ (i : Nat) (h : i < ns.length), i < k → pd ns[i] = false := by
  unfold ixP at h ⊢
  cases hf : ns.findIdx? pd with
  | none => rw [hf] at h; exact absurd rfl h
  | some i =>
    obtain ⟨hi, h1, h2⟩ := List.findIdx?_eq_some_iff_getElem.1 hf
    exact ⟨i, rfl, hi, h1, fun j hj hji => by simpa using h2 j hji⟩
/-- Where DeleteFunc stands. -/
structure DfS where
  i : Nat
  j : Nat
  xs : List Int
  l : List Blk
theorem df_step {pd : Int → Bool} {ns : List Int} {j : Nat} (h : j < ns.length) : (ns.take (j + 1)).filter (fun x => !pd x) = (ns.take j).filter (fun x => !pd x) ++ (if (!pd ns[j]) = true then [ns[j]] else []) := by
  rw [List.take_add_one, List.getElem?_eq_getElem h, List.filter_append]
  congr 1
  simp only [Option.toList_some, List.filter_cons, List.filter_nil]
theorem df_start {pd : Int → Bool} {ns : List Int} {k : Nat} (hk : k < ns.length) (ht : pd ns[k] = true) (hn : ∀ (i : Nat) (h : i < ns.length), i < k → pd ns[i] = false) : (ns.take (k + 1)).filter (fun x => !pd x) = ns.take k := by
  rw [df_step hk, ht, List.filter_eq_self.2]
  · simp
  · intro x hx
    obtain ⟨i, hi, rfl⟩ := List.mem_iff_getElem.1 hx
    rw [List.getElem_take]
    rw [List.length_take] at hi
    rw [hn i (by omega) (by omega)]; rfl
theorem df_set {xs : List Int} {i : Nat} {x : Int} (h : i < xs.length) : (xs.set i x).take (i + 1) = xs.take i ++ [x] := by
  rw [List.take_add_one, List.getElem?_set_self h, List.take_set_of_le (Nat.le_refl _)]; rfl
theorem ints_set {k : IntKind} {xs : List Int} {i : Nat} {x : Int} : ints k (xs.set i x) = (ints k xs).set i (.int k x) := by
  unfold ints; rw [List.map_set]
theorem xf_is47 {W : World} {L : List Blk} (x : Int) (q : Nat) (y : Int) (hq : Cl W L q 0 (.int .u32 y)) : XF Tryz.prog W 101 #[.int .u32 x, .pointer (some ⟨q, 0, none⟩)] L (fun v L' => v = .bool (decide (x = y)) ∧ L' = L) := by
  refine xf_enter (args := [_, _]) Tryz.func101 rfl Tryz.ntmps101 rfl ?_
  focus
    refine xc_seq ?_
    refine xc_region ?_
    refine xo_rd (rd_assign rfl) rfl ?_
    refine xo_nil ?_
    refine xq_seq ?_
    refine xc_seq ?_
    refine xc_region ?_
    refine xo_rd (rd_move rfl) rfl ?_
    refine xo_rd (rd_load1 rfl hq) rfl ?_
    refine xo_rd (rd_eql rfl rfl) rfl ?_
    refine xo_rd (rd_assign rfl) rfl ?_
    refine xo_nil ?_
    refine xq_seq ?_
    refine xc_ret ?_
    exact xq_ret1 (.inl rfl) Tryz.results101 rfl (⟨rfl, rfl⟩)
/-- What IndexFunc tells. -/
theorem xf_ixf {W : World} {L : List Blk} (p : Option Addr) (m c : Nat) (ns : List Int) (pd : Int → Bool) (hx : ns.length = m) (hr : Rs W L p (ints .u32 ns)) (hm : m ≤ 1000000000) (q : Nat) (hp : ∀ x, x ∈ ns → XF Tryz.prog W 101 #[.int .u32 x, .pointer (some ⟨q, 0, none⟩)] L (fun v L' => v = .bool (pd x) ∧ L' = L)) : XF Tryz.prog W 113 #[.slice p m c, .func (.func 101) #[] #[.pointer (some ⟨q, 0, none⟩)]] L (fun v L' => v = .int .i64 (ixP pd ns) ∧ L' = L) := by
  refine xf_enter (args := [_, _]) Tryz.func113 rfl Tryz.ntmps113 rfl ?_
  focus
    refine xc_seq ?_
    refine xc_region ?_
    refine xo_rd (rd_assign rfl) rfl ?_
    refine xo_nil ?_
    refine xq_seq ?_
    refine xc_seq ?_
    refine xc_seq ?_
    refine xc_region ?_
    refine xo_rd (rd_move rfl) rfl ?_
    refine xo_rd (rd_len rfl) rfl ?_
    refine xo_rd (rd_move rfl) rfl ?_
    refine xo_nil ?_
    refine xq_seq ?_
    refine xc_block ?_
  refine xc_loopK (ι := Nat) (fun k => k ≤ m ∧ ∀ (i : Nat) (h : i < ns.length), i < k → pd ns[i] = false) (fun k => m - k) (fun k => [(0, .slice p m c), (1, .func (.func 101) #[] #[.pointer (some ⟨q, 0, none⟩)]), (7, .int .i64 m), (8, .int .i64 k)]) 0 ⟨Nat.zero_le _, fun i h hi => absurd hi (Nat.not_lt_zero _)⟩ (by repeat (first | exact keep_nil | refine keep_cons rfl ?_)) ?_
  rintro k ⟨hk, hno⟩
  by_cases hkm : k < m
  · obtain ⟨b, o, hpb, hc⟩ := hr.int (i := k) (by omega)
    subst hpb
    have hpx := hp ns[k] (List.getElem_mem _)
    obtain ⟨s, hs⟩ : ∃ s, pd ns[k] = s := ⟨_, rfl⟩
    rw [hs] at hpx
    focus
      refine xc_seq ?_
      refine xc_region ?_
      refine xo_rd (rd_lss rfl rfl) rfl ?_
      refine xo_nil ?_
      refine xq_seq ?_
      refine xc_seq ?_
      refine xc_dec rfl (fun hz1 => ?_) (fun hz1 => (by exfalso; omega))
      refine xc_skip ?_
      refine xq_seq ?_
      refine xc_seq ?_
      refine xc_block ?_
      refine xc_seq ?_
      refine xc_region ?_
      refine xo_rd (rd_move rfl) rfl ?_
      refine xo_rd (rd_assign rfl) rfl ?_
      refine xo_nil ?_
      refine xq_seq ?_
      refine xc_seq ?_
      refine xc_region ?_
      refine xo_rd (rd_move rfl) rfl ?_
      refine xo_rd (rd_move rfl) rfl ?_
      refine xo_rd (rd_move rfl) rfl ?_
      refine xo_rd (rd_indexAddr rfl rfl (by omega) (by omega)) rfl ?_
      refine xo_rd (rd_load1 rfl hc) rfl ?_
      refine xo_ef rfl (ef_callk (r := .bool s) (vs := [.int .u32 ns[k]]) (first := []) (cap := [.pointer (some ⟨q, 0, none⟩)]) rfl rfl hpx ?_)
      refine xo_nil ?_
      refine xq_seq ?_
      refine xc_cond rfl (fun hz2 => ?_) (fun hz2 => ?_)
      refine xc_seq ?_
      refine xc_region ?_
      refine xo_rd (rd_move rfl) rfl ?_
      refine xo_rd (rd_assign rfl) rfl ?_
      refine xo_nil ?_
      refine xq_seq ?_
      refine xc_ret ?_
      refine xq_block_ret ?_
      refine xq_then_ret ?_
      refine xq_then_ret ?_
      refine xq_block_ret ?_
      refine xq_then_ret ?_
      rotate_left
      refine xc_skip ?_
      refine xq_block ?_
      refine xq_seq ?_
      refine xc_region ?_
      refine xo_rd (rd_addn rfl rfl (by omega) (by omega)) rfl ?_
      refine xo_rd (rd_move rfl) rfl ?_
      refine xo_nil ?_
      rotate_left
    · refine xq_ret1 (.inl rfl) Tryz.results113 rfl ⟨?_, rfl⟩
      rw [ixP_some (k := k) (by omega) (hs.trans hz2) (fun i h hi => hno i h hi)]
    · refine xq_roundK rfl (k + 1) ⟨by omega, fun i h hi => ?_⟩ (by omega) (List.Sublist.refl _) (by repeat (first | exact keep_nil | refine keep_cons rfl ?_))
      by_cases he : i = k
      · subst he; exact hs.trans hz2
      · exact hno i h (by omega)
  · skip
    focus
      refine xc_seq ?_
      refine xc_region ?_
      refine xo_rd (rd_lss rfl rfl) rfl ?_
      refine xo_nil ?_
      refine xq_seq ?_
      refine xc_seq ?_
      refine xc_dec rfl (fun h1 => (by exfalso; omega)) (fun h1 => ?_)
      refine xc_exit ?_
      refine xq_then_exit ?_
      refine xq_then_exit ?_
      refine xq_block_hit ?_
      refine xq_seq ?_
      refine xc_seq ?_
      refine xc_region ?_
      refine xo_rd (rd_assign rfl) rfl ?_
      refine xo_nil ?_
      refine xq_seq ?_
      refine xc_ret ?_
    refine xq_ret1 (.inl rfl) Tryz.results113 rfl ⟨?_, rfl⟩
    rw [ixP_none (fun i h => hno i h (by omega))]
/-- DeleteFunc: what is told is taken out. -/
theorem xf_delf {W : World} {R : List Blk} (p : Option Addr) (m c : Nat) (ns : List Int) (l : List Blk) (hO : SlQ 1 36 (.slice p m c) m (ints .u32 ns) l) (hx : ns.length = m) (pd : Int → Bool) (hm : m ≤ 1000000000) (q : Nat) (hp : ∀ l' x, x ∈ ns → XF Tryz.prog W 101 #[.int .u32 x, .pointer (some ⟨q, 0, none⟩)] (l' ++ R) (fun v L' => v = .bool (pd x) ∧ L' = l' ++ R)) : XF Tryz.prog W 100 #[.slice p m c, .func (.func 101) #[] #[.pointer (some ⟨q, 0, none⟩)]] (l ++ R) (fun v L' => ∃ l', v = .slice p (ns.filter fun x => !pd x).length c ∧ SlQ 1 36 (.slice p (ns.filter fun x => !pd x).length c) (ns.filter fun x => !pd x).length (ints .u32 (ns.filter fun x => !pd x)) l' ∧ L' = l' ++ R) := by
  have hmc : m ≤ c := by obtain ⟨_, _, hv, _, h⟩ := hO.opn; simp only [Value.slice.injEq] at hv; omega
  have hix := xf_ixf (W := W) (L := l ++ R) p m c ns pd hx hO.rsl hm q (hp l)
  refine xf_enter (args := [_, _]) Tryz.func100 rfl Tryz.ntmps100 rfl ?_
  by_cases hneg : ixP pd ns = -1
  · rw [hneg] at hix
    focus
      refine xc_seq ?_
      refine xc_region ?_
      refine xo_rd (rd_assign rfl) rfl ?_
      refine xo_nil ?_
      refine xq_seq ?_
      refine xc_seq ?_
      refine xc_region ?_
      refine xo_rd (rd_move rfl) rfl ?_
      refine xo_rd (rd_move rfl) rfl ?_
      refine xo_ef rfl (ef_call rfl (XF.mono (hix) ?_))
      rintro v L' ⟨rfl, rfl⟩
      refine xo_rd (rd_assign rfl) rfl ?_
      refine xo_nil ?_
      refine xq_seq ?_
      refine xc_seq ?_
      refine xc_seq ?_
      refine xc_region ?_
      refine xo_rd (rd_move rfl) rfl ?_
      refine xo_rd (rd_eql rfl rfl) rfl ?_
      refine xo_nil ?_
      refine xq_seq ?_
      refine xc_condt rfl ?_
      refine xc_seq ?_
      refine xc_region ?_
      refine xo_rd (rd_move rfl) rfl ?_
      refine xo_rd (rd_assign rfl) rfl ?_
      refine xo_nil ?_
      refine xq_seq ?_
      refine xc_ret ?_
      refine xq_then_ret ?_
    refine xq_ret1 (.inl rfl) Tryz.results100 rfl ?_
    have hf : (ns.filter fun x => !pd x) = ns := ixP_neg hneg
    rw [hf, hx]
    exact ⟨l, rfl, hO, rfl⟩
  obtain ⟨k0, hk0, hk0m, hkt, hkn⟩ := ixP_pos (pd := pd) (ns := ns) hneg
  rw [hk0] at hix
  focus
    refine xc_seq ?_
    refine xc_region ?_
    refine xo_rd (rd_assign rfl) rfl ?_
    refine xo_nil ?_
    refine xq_seq ?_
    refine xc_seq ?_
    refine xc_region ?_
    refine xo_rd (rd_move rfl) rfl ?_
    refine xo_rd (rd_move rfl) rfl ?_
    refine xo_ef rfl (ef_call rfl (XF.mono (hix) ?_))
    rintro v L' ⟨rfl, rfl⟩
    refine xo_rd (rd_assign rfl) rfl ?_
    refine xo_nil ?_
    refine xq_seq ?_
    refine xc_seq ?_
    refine xc_seq ?_
    refine xc_region ?_
    refine xo_rd (rd_move rfl) rfl ?_
    refine xo_rd (rd_eql rfl rfl) rfl ?_
    refine xo_nil ?_
    refine xq_seq ?_
    refine xc_condf rfl ?_
    refine xc_skip ?_
    refine xq_seq ?_
    refine xc_seq ?_
    refine xc_seq ?_
    refine xc_region ?_
    refine xo_rd (rd_move rfl) rfl ?_
    refine xo_rd (rd_addn rfl rfl (by omega) (by omega)) rfl ?_
    refine xo_rd (rd_assign rfl) rfl ?_
    refine xo_nil ?_
    refine xq_seq ?_
    refine xc_block ?_
  refine xc_loopI (ι := DfS) (fun s => s.j ≤ m ∧ s.i < s.j ∧ s.xs.length = m ∧ s.i = ((ns.take s.j).filter fun x => !pd x).length ∧ s.xs.take s.i = (ns.take s.j).filter (fun x => !pd x) ∧ s.xs.drop s.j = ns.drop s.j ∧ SlQ 1 36 (.slice p m c) m (ints .u32 s.xs) s.l) (fun s => m - s.j) (fun s => s.l ++ R) (fun s => [(0, .slice p m c), (1, .func (.func 101) #[] #[.pointer (some ⟨q, 0, none⟩)]), (5, .int .i64 s.i), (6, .int .i64 s.j)]) ⟨k0, k0 + 1, ns, l⟩ ?_ rfl (by repeat (first | exact keep_nil | refine keep_cons rfl ?_)) ?_
  · have htk : (ns.take (k0 + 1)).filter (fun x => !pd x) = ns.take k0 := df_start (by omega) hkt hkn
    exact ⟨by dsimp only; omega, by dsimp only; omega, hx, by dsimp only; rw [htk, List.length_take]; omega, by dsimp only; rw [htk], rfl, hO⟩
  rintro ⟨i, j, xs, l1⟩ ⟨hj, hij, hxl, hi, htk, hdr, hO1⟩
  dsimp only at hj hij hxl hi htk hdr hO1 ⊢
  by_cases hjm : j < m
  · have hxj : xs[j]'(by omega) = ns[j]'(by omega) := by
      have h := congrArg (fun l => l[0]?) hdr
      simp only [List.getElem?_drop, Nat.add_zero] at h
      rw [List.getElem?_eq_getElem (by omega), List.getElem?_eq_getElem (by omega)] at h
      exact Option.some.inj h
    have hrs : Rs W (l1 ++ R) p (ints .u32 xs) := hO1.rsl
    obtain ⟨b, o, hpb, hc⟩ := hrs.int (i := j) (by omega)
    subst hpb
    have hpx := hp l1 (ns[j]'(by omega)) (List.getElem_mem _)
    rw [← hxj] at hpx
    obtain ⟨s, hs⟩ : ∃ s, pd (xs[j]'(by omega)) = s := ⟨_, rfl⟩
    rw [hs] at hpx
    have hstep := df_step (pd := pd) (ns := ns) (j := j) (by omega)
    rw [← hxj, hs] at hstep
    generalize hxv : xs[j]'(by omega) = xv at *
    focus
      refine xc_seq ?_
      refine xc_seq ?_
      refine xc_region ?_
      refine xo_rd (rd_move rfl) rfl ?_
      refine xo_rd (rd_move rfl) rfl ?_
      refine xo_rd (rd_len rfl) rfl ?_
      refine xo_rd (rd_lss rfl rfl) rfl ?_
      refine xo_nil ?_
      refine xq_seq ?_
      refine xc_dec rfl (fun hz1 => ?_) (fun hz1 => (by exfalso; omega))
      refine xc_skip ?_
      refine xq_seq ?_
      refine xc_seq ?_
      refine xc_block ?_
      refine xc_seq ?_
      refine xc_region ?_
      refine xo_rd (rd_move rfl) rfl ?_
      refine xo_rd (rd_move rfl) rfl ?_
      refine xo_rd (rd_indexAddr rfl rfl (by omega) (by omega)) rfl ?_
      refine xo_rd (rd_load1 rfl hc) rfl ?_
      refine xo_rd (rd_assign rfl) rfl ?_
      refine xo_nil ?_
      refine xq_seq ?_
      refine xc_seq ?_
      refine xc_region ?_
      refine xo_rd (rd_move rfl) rfl ?_
      refine xo_rd (rd_move rfl) rfl ?_
      refine xo_ef rfl (ef_callk (r := .bool s) (vs := [.int .u32 xv]) (first := []) (cap := [.pointer (some ⟨q, 0, none⟩)]) rfl rfl hpx ?_)
      refine xo_rd (rd_not rfl) rfl ?_
      refine xo_nil ?_
      refine xq_seq ?_
      refine xc_cond rfl (fun hz2 => ?_) (fun hz2 => ?_)
      refine xc_seq ?_
      refine xc_region ?_
      refine xo_rd (rd_move rfl) rfl ?_
      refine xo_rd (rd_move rfl) rfl ?_
      refine xo_rd (rd_move rfl) rfl ?_
      refine xo_rd (rd_indexAddr rfl rfl (by omega) (by omega)) rfl ?_
      refine xo_ef rfl (ef_storeQ1 [] R i (v := .int .u32 xv) hO1 rfl (by omega) rfl rfl rfl (by omega) rfl fun l2 hO2 => ?_)
      refine xo_nil ?_
      refine xq_seq ?_
      refine xc_region ?_
      refine xo_rd (rd_move rfl) rfl ?_
      refine xo_rd (rd_addn rfl rfl (by omega) (by omega)) rfl ?_
      refine xo_rd (rd_assign rfl) rfl ?_
      refine xo_nil ?_
      refine xq_block ?_
      refine xq_seq ?_
      refine xc_region ?_
      refine xo_rd (rd_move rfl) rfl ?_
      refine xo_rd (rd_addn rfl rfl (by omega) (by omega)) rfl ?_
      refine xo_rd (rd_assign rfl) rfl ?_
      refine xo_nil ?_
      rotate_left
      refine xc_skip ?_
      refine xq_block ?_
      refine xq_seq ?_
      refine xc_region ?_
      refine xo_rd (rd_move rfl) rfl ?_
      refine xo_rd (rd_addn rfl rfl (by omega) (by omega)) rfl ?_
      refine xo_rd (rd_assign rfl) rfl ?_
      refine xo_nil ?_
      rotate_left
    · have hsf : s = false := by simpa using hz2
      rw [hsf] at hstep
      simp only [Bool.not_false, if_true] at hstep
      refine xq_roundI (⟨i + 1, j + 1, xs.set i xv, l2⟩ : DfS) ⟨by dsimp only; omega, by dsimp only; omega, by dsimp only; rw [List.length_set]; exact hxl, by dsimp only; rw [hstep, List.length_append, ← hi]; rfl, ?_, ?_, ?_⟩ (by dsimp only; omega) rfl (by repeat (first | exact keep_nil | refine keep_cons rfl ?_))
      · dsimp only
        rw [hstep, ← htk, df_set (by omega)]
      · dsimp only
        rw [List.drop_set, if_pos (by omega), ← List.tail_drop, ← List.tail_drop, hdr]
      · dsimp only
        rw [ints_set]; exact hO2
    · have hst : s = true := by simpa using hz2
      rw [hst] at hstep
      simp only [Bool.not_true, Bool.false_eq_true, if_false, List.append_nil] at hstep
      refine xq_roundI (⟨i, j + 1, xs, l1⟩ : DfS) ⟨by dsimp only; omega, by dsimp only; omega, hxl, by dsimp only; rw [hstep]; exact hi, by dsimp only; rw [hstep]; exact htk, ?_, hO1⟩ (by dsimp only; omega) rfl (by repeat (first | exact keep_nil | refine keep_cons rfl ?_))
      dsimp only
      rw [← List.tail_drop, ← List.tail_drop, hdr]
  · have hjm' : j = m := by omega
    subst hjm'
    have htn : ns.take j = ns := List.take_of_length_le (by omega)
    rw [htn] at hi htk
    have hpre := hO1.pre i (by omega)
    obtain ⟨b, o, hpb, _⟩ := (hO1.rsl (W := W) (R := R)) 0 (.int .u32 (xs[0]'(by omega))) (by simp [ints])
    subst hpb
    focus
      refine xc_seq ?_
      refine xc_seq ?_
      refine xc_region ?_
      refine xo_rd (rd_move rfl) rfl ?_
      refine xo_rd (rd_move rfl) rfl ?_
      refine xo_rd (rd_len rfl) rfl ?_
      refine xo_rd (rd_lss rfl rfl) rfl ?_
      refine xo_nil ?_
      refine xq_seq ?_
      refine xc_dec rfl (fun h1 => (by exfalso; omega)) (fun h1 => ?_)
      refine xc_exit ?_
      refine xq_then_exit ?_
      refine xq_then_exit ?_
      refine xq_block_hit ?_
      refine xq_seq ?_
      refine xc_seq ?_
      refine xc_region ?_
      refine xo_rd (rd_move rfl) rfl ?_
      refine xo_rd (rd_move rfl) rfl ?_
      refine xo_rd (rd_cast (v' := .slice (slp (some ⟨b, o, none⟩) c i 1) (j - i) (c - i)) (rd_slLo rfl rfl (by omega) (by omega)) (by rw [Int.toNat_natCast])) rfl ?_
      refine xo_ef rfl (ef_clearQ [] R l1 hpre rfl rfl (by omega) (by omega) (by simp [Value.cells, Value.oneCell']) fun l2 hO2 => ?_)
      refine xo_nil ?_
      refine xq_seq ?_
      refine xc_seq ?_
      refine xc_region ?_
      refine xo_rd (rd_move rfl) rfl ?_
      refine xo_rd (rd_move rfl) rfl ?_
      refine xo_rd (rd_cast (v' := .slice (some ⟨b, o, none⟩) i c) (rd_slHi rfl rfl (by omega) (by omega)) (by rw [Int.toNat_natCast])) rfl ?_
      refine xo_rd (rd_assign rfl) rfl ?_
      refine xo_nil ?_
      refine xq_seq ?_
      refine xc_ret ?_
    refine xq_ret1 (.inl rfl) Tryz.results100 rfl ⟨l2, by rw [hi], ?_, rfl⟩
    rw [Nat.mul_one] at hO2
    rw [← htk]
    have hlt : (xs.take i).length = i := by rw [List.length_take]; omega
    rw [hlt, ints_take]
    exact hO2
/-- slices.Index: the first place of a number. -/
theorem xf_index {W : World} {L : List Blk} (p : Option Addr) (m c : Nat) (ns : List Int) (x : Int) (hx : ns.length = m) (hr : Rs W L p (ints .u32 ns)) (hm : m ≤ 1000000000) : XF Tryz.prog W 112 #[.slice p m c, .int .u32 x] L (fun v L' => v = .int .i64 (ixOf ns x) ∧ L' = L) := by
  refine xf_enter (args := [_, _]) Tryz.func112 rfl Tryz.ntmps112 rfl ?_
  focus
    refine xc_seq ?_
    refine xc_region ?_
    refine xo_rd (rd_assign rfl) rfl ?_
    refine xo_nil ?_
    refine xq_seq ?_
    refine xc_seq ?_
    refine xc_seq ?_
    refine xc_region ?_
    refine xo_rd (rd_move rfl) rfl ?_
    refine xo_rd (rd_len rfl) rfl ?_
    refine xo_rd (rd_move rfl) rfl ?_
    refine xo_nil ?_
    refine xq_seq ?_
    refine xc_block ?_
  refine xc_loopI (ι := Nat) (fun k => k ≤ m ∧ ∀ i, (hi : i < k) → (h2 : i < ns.length) → ns[i] ≠ x) (fun k => m - k) (fun _ => L) (fun k => [(0, .slice p m c), (1, .int .u32 x), (7, .int .i64 m), (8, .int .i64 k)]) 0 ⟨Nat.zero_le _, fun i hi => by omega⟩ rfl (by repeat (first | exact keep_nil | refine keep_cons rfl ?_)) ?_
  rintro k ⟨hk, hno⟩
  focus
    refine xc_seq ?_
    refine xc_region ?_
    refine xo_rd (rd_lss rfl rfl) rfl ?_
    refine xo_nil ?_
    refine xq_seq ?_
    refine xc_seq ?_
    refine xc_dec rfl (fun hk1 => ?_) (fun hk1 => ?_)
    refine xc_skip ?_
    refine xq_seq ?_
    refine xc_seq ?_
    refine xc_block ?_
    refine xc_seq ?_
    refine xc_region ?_
    refine xo_rd (rd_move rfl) rfl ?_
    refine xo_rd (rd_assign rfl) rfl ?_
    refine xo_nil ?_
    refine xq_seq ?_
    refine xc_seq ?_
    refine xc_region ?_
    refine xo_rd (rd_move rfl) rfl ?_
    refine xo_rd (rd_move rfl) rfl ?_
    refine xo_rd (rd_move rfl) rfl ?_
    rotate_left
    refine xc_exit ?_
    refine xq_then_exit ?_
    refine xq_then_exit ?_
    refine xq_block_hit ?_
    refine xq_seq ?_
    refine xc_seq ?_
    refine xc_region ?_
    refine xo_rd (rd_assign rfl) rfl ?_
    refine xo_nil ?_
    refine xq_seq ?_
    refine xc_ret ?_
    rotate_left
  · obtain ⟨b, o, hp, hc⟩ := hr.int (i := k) (by omega)
    subst hp
    focus
      refine xo_rd (rd_indexAddr rfl rfl (by omega) (by omega)) rfl ?_
      refine xo_rd (rd_load1 rfl hc) rfl ?_
      refine xo_rd (rd_eql rfl rfl) rfl ?_
      refine xo_nil ?_
      refine xq_seq ?_
      refine xc_dec rfl (fun hq1 => ?_) (fun hq1 => ?_)
      refine xc_seq ?_
      refine xc_region ?_
      refine xo_rd (rd_move rfl) rfl ?_
      refine xo_rd (rd_assign rfl) rfl ?_
      refine xo_nil ?_
      refine xq_seq ?_
      refine xc_ret ?_
      refine xq_block_ret ?_
      refine xq_then_ret ?_
      refine xq_then_ret ?_
      refine xq_block_ret ?_
      refine xq_then_ret ?_
      rotate_left
      refine xc_skip ?_
      refine xq_block ?_
      refine xq_seq ?_
      refine xc_region ?_
      refine xo_rd (rd_addn rfl rfl (by omega) (by omega)) rfl ?_
      refine xo_rd (rd_move rfl) rfl ?_
      refine xo_nil ?_
      rotate_left
    · refine xq_ret1 (.inl rfl) Tryz.results112 rfl ⟨?_, rfl⟩
      rw [ixOf_some (k := k) (by omega) hq1.symm (fun i hi => hno i hi (by omega))]
    · refine xq_roundI (k + 1) ⟨by omega, fun i hi h2 => ?_⟩ (by omega) rfl (by repeat (first | exact keep_nil | refine keep_cons rfl ?_))
      by_cases he : i = k
      · subst he; exact fun e => hq1 e.symm
      · exact hno i (by omega) h2
  · refine xq_ret1 (.inl rfl) Tryz.results112 rfl ⟨?_, rfl⟩
    rw [ixOf_none (fun i hi => hno i (by omega) hi)]
theorem xf_contains {W : World} {L : List Blk} (p : Option Addr) (m c : Nat) (ns : List Int) (x : Int) (hx : ns.length = m) (hr : Rs W L p (ints .u32 ns)) (hm : m ≤ 1000000000) : XF Tryz.prog W 96 #[.slice p m c, .int .u32 x] L (fun v L' => v = .bool (decide (0 ≤ ixOf ns x)) ∧ L' = L) := by
  refine xf_enter (args := [_, _]) Tryz.func96 rfl Tryz.ntmps96 rfl ?_
  focus
    refine xc_seq ?_
    refine xc_region ?_
    refine xo_rd (rd_assign rfl) rfl ?_
    refine xo_nil ?_
    refine xq_seq ?_
    refine xc_seq ?_
    refine xc_region ?_
    refine xo_rd (rd_move rfl) rfl ?_
    refine xo_rd (rd_move rfl) rfl ?_
    refine xo_ef rfl (ef_call rfl (XF.mono (xf_index p m c ns x hx hr hm) ?_))
    rintro v L' ⟨rfl, rfl⟩
    refine xo_rd (rd_geq rfl rfl) rfl ?_
    refine xo_rd (rd_assign rfl) rfl ?_
    refine xo_nil ?_
    refine xq_seq ?_
    refine xc_ret ?_
    exact xq_ret1 (.inl rfl) Tryz.results96 rfl (⟨rfl, rfl⟩)
/-- slices.Clone: a row in new memory. -/
theorem xf_clone {W : World} {L : List Blk} (p : Option Addr) (m c : Nat) (xs : List Value) (hx : xs.length = m * 1) (hr : Rs W L p xs) (h1 : xs.all (·.oneCell') = true) (hm : m ≤ 1000000000) : XF Tryz.prog W 109 #[.slice p m c] L (fun v L' => ∃ q k l, v = .slice q m k ∧ SlO 1 36 (.slice q m k) m xs l ∧ m ≤ k ∧ L' = l ++ L) := by
  refine xf_enter (args := [_]) Tryz.func109 rfl Tryz.ntmps109 rfl ?_
  cases p with
  | none =>
    have h0 := hr.none_nil
    subst h0
    have hm0 : m = 0 := by simp at hx; omega
    subst hm0
    focus
      refine xc_seq ?_
      refine xc_region ?_
      refine xo_rd (rd_assign rfl) rfl ?_
      refine xo_nil ?_
      refine xq_seq ?_
      refine xc_seq ?_
      refine xc_seq ?_
      refine xc_region ?_
      refine xo_rd (rd_move rfl) rfl ?_
      refine xo_rd (rd_eqnilS rfl) rfl ?_
      refine xo_nil ?_
      refine xq_seq ?_
      refine xc_condt rfl ?_
      refine xc_seq ?_
      refine xc_region ?_
      refine xo_rd (rd_assign rfl) rfl ?_
      refine xo_nil ?_
      refine xq_seq ?_
      refine xc_ret ?_
      refine xq_then_ret ?_
    exact xq_ret1 (.inl rfl) Tryz.results109 rfl ⟨none, 0, [], rfl, SlO.nil, Nat.le_refl _, rfl⟩
  | some a =>
    focus
      refine xc_seq ?_
      refine xc_region ?_
      refine xo_rd (rd_assign rfl) rfl ?_
      refine xo_nil ?_
      refine xq_seq ?_
      refine xc_seq ?_
      refine xc_seq ?_
      refine xc_region ?_
      refine xo_rd (rd_move rfl) rfl ?_
      refine xo_rd (rd_eqnilS rfl) rfl ?_
      refine xo_nil ?_
      refine xq_seq ?_
      refine xc_condf rfl ?_
      refine xc_skip ?_
      refine xq_seq ?_
      refine xc_seq ?_
      refine xc_region ?_
      refine xo_ef rfl (ef_slice0 fun r5 => ?_)
      refine xo_rd (rd_move rfl) rfl ?_
    refine xo_ef rfl (ef_append [] L [_] rfl rfl SlO.zero rfl hr.skip hx h1 (by decide) (by omega) (by omega) fun v' l' hO => ?_)
    rw [Nat.zero_add, List.nil_append] at hO
    obtain ⟨q, k, rfl, hO, _⟩ := hO.opn
    focus
      refine xo_rd (rd_assign rfl) rfl ?_
      refine xo_nil ?_
      refine xq_seq ?_
      refine xc_ret ?_
    exact xq_ret1 (.inl rfl) Tryz.results109 rfl ⟨q, k, l', rfl, hO, hO.cap.2, rfl⟩
end Go.Proofs.YtmdeajdaeihniaaGreat.X
/-
  Words of my own for walks, thirtieth part: lists of a known length. No condition.
-/
namespace Go.Proofs.YtmdeajdaeihniaaGreat.X
open Go Go.RowKit
end Go.Proofs.YtmdeajdaeihniaaGreat.X
/-
  Chapter 13: what a floor is, wherever it lies; what it answers: no condition.
-/
namespace Go.Proofs.YtmdeajdaeihniaaGreat.X
open Go Go.RowKit
set_option linter.unusedVariables false
set_option linter.unusedSimpArgs false
/-- A floor, by itself. -/
structure Fa where
  bound : Int
  sil : Int
  ms : List (Int × Bool)
  held : Bool
  no : Int
  who : Int
  at' : Int
  heard : Int
  pend : Bool
  wt : List Int
  gs : List (Int × Int × Int)
def isM (l : List (Int × Bool)) (w : Int) : Bool := l.any fun e => e.1 == w
def roleV (l : List (Int × Bool)) (w : Int) : Option Value := (l.find? fun e => e.1 == w).map fun e => .int .i64 (if e.2 = true then 1 else 0)
def modA (l : List (Int × Bool)) (w : Int) : Bool := ((l.find? fun e => e.1 == w).map (·.2)).getD false
def insM (w : Int) (m : Bool) : List (Int × Bool) → List (Int × Bool)
  | [] => [(w, m)]
  | e :: r => if w < e.1 then (w, m) :: e :: r else e :: insM w m r
def grantF (f : Fa) (w now : Int) : Fa := ⟨f.bound, f.sil, f.ms, true, (f.gs.length : Int) + 1, w, now, now, true, f.wt, f.gs ++ [((f.gs.length : Int) + 1, w, now)]⟩
def freeF (f : Fa) (wt : List Int) : Fa := ⟨f.bound, f.sil, f.ms, false, 0, 0, 0, 0, false, wt, f.gs⟩
def endF (f : Fa) (now : Int) : Fa := match f.wt with
  | [] => freeF f []
  | w :: r => grantF (freeF f r) w now
def holdsA (f : Fa) (w : Int) : Bool := f.held && decide (f.who = w)
def joinE (f : Fa) (w : Int) : Int := if isM f.ms w = true then 132 else if 32 ≤ f.ms.length then 131 else 0
def joinF (f : Fa) (w : Int) (m : Bool) : Fa := if joinE f w = 0 then { f with ms := insM w m f.ms } else f
def leaveE (f : Fa) (w : Int) : Int := if isM f.ms w = true then 0 else 130
def outF (f : Fa) (w : Int) : Fa := { f with ms := f.ms.filter fun e => !(e.1 == w), wt := f.wt.filter fun x => !decide (x = w) }
def leaveF (f : Fa) (w now : Int) : Fa := if isM f.ms w = true then (if holdsA f w = true then endF (outF f w) now else outF f w) else f
def reqE (f : Fa) (w : Int) : Int := if isM f.ms w = true then (if holdsA f w = true ∨ w ∈ f.wt then 132 else if f.held = true ∧ f.bound ≤ f.wt.length then 131 else 0) else 130
def reqF (f : Fa) (w now : Int) : Fa := if reqE f w = 0 then (if f.held = true then { f with wt := f.wt ++ [w] } else grantF f w now) else f
def relE (f : Fa) (w : Int) : Int := if isM f.ms w = true then (if holdsA f w = true then 0 else 133) else 130
def relF (f : Fa) (w now : Int) : Fa := if relE f w = 0 then endF f now else f
def revE (f : Fa) (b w : Int) : Int := if isM f.ms b = true ∧ isM f.ms w = true then (if modA f.ms b = true then relE f w else 134) else 130
def revF (f : Fa) (b w now : Int) : Fa := if revE f b w = 0 then endF f now else f
def heardF (f : Fa) (w now : Int) (k : Bool) : Fa := if holdsA f w = true then { f with heard := now, pend := f.pend && !k } else f
def tickA (f : Fa) (now : Int) : Bool := f.held && (decide (f.heard ≤ now) && decide (f.sil ≤ now - f.heard))
def tickF (f : Fa) (now : Int) : Fa := if tickA f now = true then endF f now else f
theorem isM_find {l : List (Int × Bool)} {w : Int} : (roleV l w).isSome = isM l w := by
  unfold roleV isM
  rw [Option.isSome_map]
  induction l with
  | nil => rfl
  | cons x r ih =>
    rw [List.find?_cons, List.any_cons]
    cases x.1 == w
    · simpa using ih
    · rfl
theorem insM_len (w : Int) (m : Bool) : ∀ l : List (Int × Bool), (insM w m l).length = l.length + 1
  | [] => rfl
  | e :: r => by unfold insM; split <;> simp [insM_len w m r]
theorem insM_mem {w : Int} {m : Bool} : ∀ {l : List (Int × Bool)} {e : Int × Bool}, e ∈ insM w m l ↔ e = (w, m) ∨ e ∈ l
  | [], e => by simp [insM]
  | x :: r, e => by
    unfold insM
    split
    · simp
    · simp only [List.mem_cons, insM_mem (l := r)]
      constructor
      · rintro (h | h | h) <;> simp [h]
      · rintro (h | h | h) <;> simp [h]
theorem isM_mem {l : List (Int × Bool)} {w : Int} : isM l w = true ↔ w ∈ l.map (·.1) := by
  unfold isM
  rw [List.any_eq_true, List.mem_map]
  simp
theorem insM_nodup {w : Int} {m : Bool} : ∀ {l : List (Int × Bool)}, (l.map (·.1)).Nodup → isM l w = false → ((insM w m l).map (·.1)).Nodup
  | [], _, _ => by simp [insM]
  | x :: r, hn, hw => by
    have hw' : ¬ w ∈ (x :: r).map (·.1) := fun h => by rw [isM_mem.2 h] at hw; cases hw
    unfold insM
    split
    · exact List.nodup_cons.2 ⟨hw', hn⟩
    · rw [List.map_cons, List.nodup_cons] at hn ⊢
      rw [List.map_cons, List.mem_cons, not_or] at hw'
      refine ⟨fun h => ?_, insM_nodup hn.2 ?_⟩
      · obtain ⟨e, he, hx⟩ := List.mem_map.1 h
        rcases insM_mem.1 he with rfl | he
        · exact hw'.1 hx
        · exact hn.1 (List.mem_map.2 ⟨e, he, hx⟩)
      · cases hm : isM r w with
        | false => rfl
        | true => exact absurd (isM_mem.1 hm) hw'.2
theorem find_ins (w : Int) (m : Bool) : ∀ {l : List (Int × Bool)}, isM l w = false → ∀ z, (insM w m l).find? (fun e => e.1 == z) = if z = w then some (w, m) else l.find? (fun e => e.1 == z)
  | [], _, z => by
    unfold insM
    by_cases h : z = w
    · subst h; simp
    · have : (w == z) = false := by simp; exact fun e => h e.symm
      rw [List.find?_cons, this, if_neg h]
  | x :: r, hw, z => by
    have hx : (x.1 == w) = false ∧ isM r w = false := by
      unfold isM at hw ⊢
      rw [List.any_cons, Bool.or_eq_false_iff] at hw
      exact hw
    unfold insM
    split
    · rw [List.find?_cons]
      by_cases h : z = w
      · subst h; simp
      · have : (w == z) = false := by simp; exact fun e => h e.symm
        rw [this, if_neg h]
    · rw [List.find?_cons, List.find?_cons, find_ins w m hx.2 z]
      by_cases h : z = w
      · subst h; simp [hx.1]
      · rw [if_neg h]
        cases x.1 == z <;> simp [h]
theorem roleV_ins {l : List (Int × Bool)} {w : Int} {m : Bool} (h : isM l w = false) (z : Int) : roleV (insM w m l) z = mupd (roleV l) w (some (.int .i64 (if m = true then 1 else 0))) z := by
  unfold roleV mupd
  rw [find_ins w m h]
  split <;> rfl
theorem roleV_out {l : List (Int × Bool)} {w : Int} (z : Int) : roleV (l.filter fun e => !(e.1 == w)) z = mupd (roleV l) w none z := by
  unfold roleV mupd
  by_cases h : z = w
  · subst h
    rw [if_pos rfl]
    have : (l.filter fun e => !(e.1 == z)).find? (fun e => e.1 == z) = none := by
      rw [List.find?_eq_none]
      intro x hx
      have := (List.mem_filter.1 hx).2
      simpa using this
    rw [this]; rfl
  · rw [if_neg h]
    congr 1
    induction l with
    | nil => rfl
    | cons x r ih =>
      rw [List.filter_cons]
      by_cases hx : x.1 = w
      · have h1 : (x.1 == w) = true := by simp [hx]
        have h2 : (x.1 == z) = false := by simp [hx]; exact fun e => h e.symm
        rw [h1, List.find?_cons, h2]
        simpa using ih
      · have h1 : (x.1 == w) = false := by simp [hx]
        rw [h1]
        simp only [Bool.not_false, if_true, List.find?_cons]
        cases x.1 == z
        · simpa using ih
        · rfl
theorem out_len {l : List (Int × Bool)} {w : Int} (hn : (l.map (·.1)).Nodup) (h : isM l w = true) : (l.filter fun e => !(e.1 == w)).length = l.length - 1 := by
  induction l with
  | nil => cases h
  | cons x r ih =>
    rw [List.map_cons, List.nodup_cons] at hn
    rw [List.filter_cons]
    by_cases hx : x.1 = w
    · have h1 : (x.1 == w) = true := by simp [hx]
      rw [h1]
      have h2 : (r.filter fun e => !(e.1 == w)) = r := by
        rw [List.filter_eq_self]
        intro e he
        have : ¬ e.1 = w := fun h3 => hn.1 (List.mem_map.2 ⟨e, he, h3.trans hx.symm⟩)
        simp [this]
      simp [h2]
    · have h1 : (x.1 == w) = false := by simp [hx]
      have h2 : isM r w = true := by
        unfold isM at h ⊢
        rw [List.any_cons, h1, Bool.false_or] at h; exact h
      have h3 : 0 < r.length := by
        cases r with
        | nil => cases h2
        | cons _ _ => exact Nat.succ_pos _
      rw [h1]
      simp only [Bool.not_false, if_true, List.length_cons, ih hn.2 h2]
      omega
theorem out_nodup {l : List (Int × Bool)} {w : Int} (hn : (l.map (·.1)).Nodup) : ((l.filter fun e => !(e.1 == w)).map (·.1)).Nodup := hn.sublist (List.filter_sublist.map _)
/-! ### its memory -/
def gEnc (g : Int × Int × Int) : List Value := [.int .u64 g.1, .int .u32 g.2.1, .int .u64 g.2.2]
theorem gEnc_len (g : Int × Int × Int) : (gEnc g).length = 3 := rfl
def fcl (bound sil : Int) (mb : Nat) (no who at' heard : Int) (pend held : Bool) (wp : Option Addr) (wn wc : Nat) (gp : Option Addr) (gn gc : Nat) : List Value :=
  [.int .i64 bound, .int .u64 sil, .map (some mb), .int .u64 no, .int .u32 who, .int .u64 at', .int .u64 heard, .bool pend, .bool held, .slice wp wn wc, .slice gp gn gc]
structure Fm where
  a : Fa
  mb : Nat
  mo : Obj
  wp : Option Addr
  wc : Nat
  wl : List Blk
  gp : Option Addr
  gc : Nat
  gl : List Blk
def Fm.cells (x : Fm) : List Value := fcl x.a.bound x.a.sil x.mb x.a.no x.a.who x.a.at' x.a.heard x.a.pend x.a.held x.wp x.a.wt.length x.wc x.gp x.a.gs.length x.gc
structure Fm.Ok (x : Fm) : Prop where
  mp : MpIs .u32 x.mo (roleV x.a.ms) x.a.ms.length
  w : SlQ 1 36 (.slice x.wp x.a.wt.length x.wc) x.a.wt.length (ints .u32 x.a.wt) x.wl
  g : SlQ 3 101 (.slice x.gp x.a.gs.length x.gc) x.a.gs.length (x.a.gs.flatMap gEnc) x.gl
  nd : (x.a.ms.map (·.1)).Nodup
  bd : 0 ≤ x.a.bound ∧ x.a.bound ≤ 32
  wb : (x.a.wt.length : Int) ≤ x.a.bound
  mn : x.a.ms.length ≤ 32
def Fm.blks (r : Nat) (x : Fm) (L : List Blk) : List Blk := (r, .cells x.cells.toArray 136 (0, 0)) :: (x.mb, x.mo) :: (x.wl ++ (x.gl ++ L))
/-- A floor that can be read. -/
structure FR (W : World) (L : List Blk) (r : Nat) (x : Fm) : Prop where
  cl : ∀ (j : Nat) (u : Value), x.cells[j]? = some u → Cl W L r j u
  kn : Kn W L x.mb x.mo
  w : Rs W L x.wp (ints .u32 x.a.wt)
  g : Rs W L x.gp (x.a.gs.flatMap gEnc)
theorem FR.mono {W : World} {L L' : List Blk} {r : Nat} {x : Fm} (h : FR W L r x) (hm : ∀ z, z ∈ L → z ∈ L') : FR W L' r x := ⟨fun j u hj => (h.cl j u hj).mono hm, h.kn.mono hm, h.w.mono hm, h.g.mono hm⟩
theorem Fm.Ok.fr {W : World} {L : List Blk} {r : Nat} {x : Fm} (h : x.Ok) (hm : ∀ z, z ∈ (r, Obj.cells x.cells.toArray 136 (0, 0)) :: (x.mb, x.mo) :: (x.wl ++ x.gl) → z ∈ L) : FR W L r x :=
  ⟨fun j u hj => Cl.own (hm _ List.mem_cons_self) (by simpa using hj), .inr (hm _ (List.mem_cons_of_mem _ List.mem_cons_self)), h.w.rs fun z hz => hm _ (List.mem_cons_of_mem _ (List.mem_cons_of_mem _ (List.mem_append_left _ hz))), h.g.rs fun z hz => hm _ (List.mem_cons_of_mem _ (List.mem_cons_of_mem _ (List.mem_append_right _ hz)))⟩
end Go.Proofs.YtmdeajdaeihniaaGreat.X
/-
  Chapter 13: the floor's own functions, by walks of my own.
-/
namespace Go.Proofs.YtmdeajdaeihniaaGreat.X
open Go Go.RowKit
set_option linter.unusedVariables false
set_option linter.unusedSimpArgs false
def hEnc (no who at' heard : Int) (pend held : Bool) : List Value := [.int .u64 no, .int .u32 who, .int .u64 at', .int .u64 heard, .bool pend, .bool held]
theorem hEnc_len (no who at' heard : Int) (pend held : Bool) : (hEnc no who at' heard pend held).length = 6 := rfl
theorem fcl_len (bound sil : Int) (mb : Nat) (no who at' heard : Int) (pend held : Bool) (wp : Option Addr) (wn wc : Nat) (gp : Option Addr) (gn gc : Nat) : (fcl bound sil mb no who at' heard pend held wp wn wc gp gn gc).length = 11 := rfl
theorem xf_member {W : World} {L : List Blk} (r : Nat) (mb : Nat) (mo : Obj) (ms : List (Int × Bool)) (hc : Cl W L r 2 (.map (some mb))) (hk : Kn W L mb mo) (hm : MpIs .u32 mo (roleV ms) ms.length) (p : Option Addr) (n c : Nat) (ws : List Int) (hn : ws.length = n) (hr : Rs W L p (ints .u32 ws)) (hs : n ≤ 1000000) :
    XF Tryz.prog W 94 #[.pointer (some ⟨r, 0, none⟩), .slice p n c] L (fun v L' => v = .int .i64 (if (ws.all fun w => isM ms w) = true then 0 else 130) ∧ L' = L) := by
  refine xf_enter (args := [_, _]) Tryz.func94 rfl Tryz.ntmps94 rfl ?_
  focus
    refine xc_seq ?_
    refine xc_region ?_
    refine xo_rd (rd_assign rfl) rfl ?_
    refine xo_nil ?_
    refine xq_seq ?_
    refine xc_seq ?_
    refine xc_seq ?_
    refine xc_region ?_
    refine xo_rd (rd_move rfl) rfl ?_
    refine xo_rd (rd_eqnil rfl) rfl ?_
    refine xo_nil ?_
    refine xq_seq ?_
    refine xc_condf rfl ?_
    refine xc_skip ?_
    refine xq_seq ?_
    refine xc_seq ?_
    refine xc_seq ?_
    refine xc_region ?_
    refine xo_rd (rd_move rfl) rfl ?_
    refine xo_rd (rd_len rfl) rfl ?_
    refine xo_rd (rd_move rfl) rfl ?_
    refine xo_nil ?_
    refine xq_seq ?_
    refine xc_block ?_
  refine xc_loopK (ι := Nat) (fun i => i ≤ n ∧ (ws.take i).all (fun w => isM ms w) = true) (fun i => n - i) (fun i => [(0, .pointer (some ⟨r, 0, none⟩)), (11, .slice p n c), (12, .int .i64 n), (13, .int .i64 i)]) 0 ⟨Nat.zero_le _, rfl⟩ (by repeat (first | exact keep_nil | refine keep_cons rfl ?_)) ?_
  rintro i ⟨hi, hno⟩
  by_cases hin : i < n
  · obtain ⟨b, o, hpb, hcb⟩ := hr.int (i := i) (by omega)
    subst hpb
    have e1 : ws[i]? = some ws[i] := List.getElem?_eq_getElem (by omega)
    generalize ws[i] = w at *
    focus
      refine xc_seq ?_
      refine xc_region ?_
      refine xo_rd (rd_lss rfl rfl) rfl ?_
      refine xo_nil ?_
      refine xq_seq ?_
      refine xc_seq ?_
      refine xc_dec rfl (fun hz1 => ?_) (fun hz1 => (by exfalso; omega))
      refine xc_skip ?_
      refine xq_seq ?_
      refine xc_seq ?_
      refine xc_block ?_
      refine xc_seq ?_
      refine xc_region ?_
      refine xo_rd (rd_indexAddr rfl rfl (by omega) (by omega)) rfl ?_
      refine xo_rd (rd_load1 rfl hcb) rfl ?_
      refine xo_rd (rd_assign rfl) rfl ?_
      refine xo_nil ?_
      refine xq_seq ?_
      refine xc_seq ?_
      refine xc_region ?_
      refine xo_rd (rd_move rfl) rfl ?_
      refine xo_rd (rd_nilCheck rfl) rfl ?_
      refine xo_rd (rd_fieldAddr rfl) rfl ?_
      refine xo_rd (rd_load1 rfl hc) rfl ?_
      refine xo_rd (rd_move rfl) rfl ?_
      refine xo_rd (rd_lookupOk hm rfl rfl hk) rfl ?_
      refine xo_rd (rd_move rfl) rfl ?_
      refine xo_rd (rd_extract rfl rfl) rfl ?_
      refine xo_rd (rd_extract rfl rfl) rfl ?_
      refine xo_rd (rd_assign rfl) rfl ?_
      refine xo_rd (rd_assign rfl) rfl ?_
      refine xo_nil ?_
      refine xq_seq ?_
      refine xc_seq ?_
      refine xc_region ?_
      refine xo_rd (rd_move rfl) rfl ?_
      refine xo_rd (rd_not rfl) rfl ?_
      refine xo_nil ?_
      refine xq_seq ?_
      refine xc_cond rfl (fun hz2 => ?_) (fun hz2 => ?_)
      refine xc_seq ?_
      refine xc_region ?_
      refine xo_rd (rd_assign rfl) rfl ?_
      refine xo_nil ?_
      refine xq_seq ?_
      refine xc_ret ?_
      refine xq_block_ret ?_
      refine xq_then_ret ?_
      refine xq_then_ret ?_
      refine xq_block_ret ?_
      refine xq_then_ret ?_
      rotate_left
      refine xc_skip ?_
      refine xq_block ?_
      refine xq_seq ?_
      refine xc_region ?_
      refine xo_rd (rd_addn rfl rfl (by omega) (by omega)) rfl ?_
      refine xo_rd (rd_move rfl) rfl ?_
      refine xo_nil ?_
      rotate_left
    · rw [isM_find] at hz2
      refine xq_ret1 (.inl rfl) Tryz.results94 rfl ⟨?_, rfl⟩
      rw [if_neg]
      intro hall
      have := List.all_eq_true.1 hall w (List.mem_of_getElem? e1)
      rw [this] at hz2; cases hz2
    · rw [isM_find] at hz2
      refine xq_roundK rfl (i + 1) ⟨by omega, ?_⟩ (by omega) (List.Sublist.refl _) (by repeat (first | exact keep_nil | refine keep_cons rfl ?_))
      rw [List.take_add_one, e1, List.all_append, hno]
      simpa using hz2
  · skip
    focus
      refine xc_seq ?_
      refine xc_region ?_
      refine xo_rd (rd_lss rfl rfl) rfl ?_
      refine xo_nil ?_
      refine xq_seq ?_
      refine xc_seq ?_
      refine xc_dec rfl (fun h1 => (by exfalso; omega)) (fun h1 => ?_)
      refine xc_exit ?_
      refine xq_then_exit ?_
      refine xq_then_exit ?_
      refine xq_block_hit ?_
      refine xq_seq ?_
      refine xc_seq ?_
      refine xc_region ?_
      refine xo_rd (rd_assign rfl) rfl ?_
      refine xo_nil ?_
      refine xq_seq ?_
      refine xc_ret ?_
    rw [List.take_of_length_le (by omega)] at hno
    exact xq_ret1 (.inl rfl) Tryz.results94 rfl ⟨by rw [if_pos hno], rfl⟩
theorem xf_holds {W : World} {L : List Blk} (r : Nat) (he : Bool) (who w : Int) (h8 : Cl W L r 8 (.bool he)) (h4 : Cl W L r 4 (.int .u32 who)) : XF Tryz.prog W 95 #[.pointer (some ⟨r, 0, none⟩), .int .u32 w] L (fun v L' => v = .bool (he && decide (who = w)) ∧ L' = L) := by
  refine xf_enter (args := [_, _]) Tryz.func95 rfl Tryz.ntmps95 rfl ?_
  cases he <;> skip
  · focus
      refine xc_seq ?_
      refine xc_region ?_
      refine xo_rd (rd_assign rfl) rfl ?_
      refine xo_nil ?_
      refine xq_seq ?_
      refine xc_seq ?_
      refine xc_region ?_
      refine xo_rd (rd_move rfl) rfl ?_
      refine xo_rd (rd_nilCheck rfl) rfl ?_
      refine xo_rd (rd_fieldAddr rfl) rfl ?_
      refine xo_rd (rd_fieldAddr rfl) rfl ?_
      refine xo_rd (rd_load1 rfl h8) rfl ?_
      refine xo_rd (rd_move rfl) rfl ?_
      refine xo_gskip rfl rfl rfl rfl ?_
      refine xo_gskip rfl rfl rfl rfl ?_
      refine xo_gskip rfl rfl rfl rfl ?_
      refine xo_gskip rfl rfl rfl rfl ?_
      refine xo_gskip rfl rfl rfl rfl ?_
      refine xo_gskip rfl rfl rfl rfl ?_
      refine xo_gskip rfl rfl rfl rfl ?_
      refine xo_gskip rfl rfl rfl rfl ?_
      refine xo_rd (rd_pickf rfl rfl) rfl ?_
      refine xo_rd (rd_assign rfl) rfl ?_
      refine xo_nil ?_
      refine xq_seq ?_
      refine xc_ret ?_
    exact xq_ret1 (.inl rfl) Tryz.results95 rfl ⟨rfl, rfl⟩
  · focus
      refine xc_seq ?_
      refine xc_region ?_
      refine xo_rd (rd_assign rfl) rfl ?_
      refine xo_nil ?_
      refine xq_seq ?_
      refine xc_seq ?_
      refine xc_region ?_
      refine xo_rd (rd_move rfl) rfl ?_
      refine xo_rd (rd_nilCheck rfl) rfl ?_
      refine xo_rd (rd_fieldAddr rfl) rfl ?_
      refine xo_rd (rd_fieldAddr rfl) rfl ?_
      refine xo_rd (rd_load1 rfl h8) rfl ?_
      refine xo_rd (rd_move rfl) rfl ?_
      refine xo_grd rfl rfl (rd_move rfl) rfl ?_
      refine xo_grd rfl rfl (rd_nilCheck rfl) rfl ?_
      refine xo_grd rfl rfl (rd_fieldAddr rfl) rfl ?_
      refine xo_grd rfl rfl (rd_fieldAddr rfl) rfl ?_
      refine xo_grd rfl rfl (rd_fieldAddr rfl) rfl ?_
      refine xo_grd rfl rfl (rd_load1 rfl h4) rfl ?_
      refine xo_grd rfl rfl (rd_move rfl) rfl ?_
      refine xo_grd rfl rfl (rd_eql rfl rfl) rfl ?_
      refine xo_rd (rd_pickt rfl rfl) rfl ?_
      refine xo_rd (rd_assign rfl) rfl ?_
      refine xo_nil ?_
      refine xq_seq ?_
      refine xc_ret ?_
    exact xq_ret1 (.inl rfl) Tryz.results95 rfl ⟨rfl, rfl⟩
set_option maxHeartbeats 800000 in
theorem xf_grant {W : World} {L : List Blk} (r : Nat) (x : Fm) (hx : x.Ok) (w now : Int) (hg : x.a.gs.length ≤ 1000000) : XF Tryz.prog W 97 #[.pointer (some ⟨r, 0, none⟩), .int .u32 w, .int .u64 now] (x.blks r L) (fun v L' => v = .tuple #[] ∧ ∃ y : Fm, y.Ok ∧ y.a = grantF x.a w now ∧ L' = y.blks r L) := by
  obtain ⟨⟨bound, sil, ms, held, no, who, at', heard, pend, wt, gs⟩, mb, mo, wp, wc, wl, gp, gc, gl⟩ := x
  obtain ⟨hmp, hw, hgs, hnd, hbd, hwb, hmn⟩ := hx
  dsimp only at hmp hw hgs hnd hbd hwb hmn hg
  unfold Fm.blks Fm.cells
  dsimp only
  refine xf_enter (args := [_, _, _]) Tryz.func97 rfl Tryz.ntmps97 rfl ?_
  focus
    refine xc_seq ?_
    refine xc_region ?_
    refine xo_rd (rd_move rfl) rfl ?_
    refine xo_rd (rd_nilCheck rfl) rfl ?_
    refine xo_rd (rd_fieldAddr rfl) rfl ?_
    refine xo_rd (rd_load1 rfl (Cl.o0 rfl)) rfl ?_
    refine xo_rd (rd_len rfl) rfl ?_
    refine xo_rd (rd_addn rfl rfl (by omega) (by omega)) rfl ?_
    refine xo_rd (rd_convn rfl (by omega) (by omega)) rfl ?_
    refine xo_rd (rd_move rfl) rfl ?_
    refine xo_rd (rd_move rfl) rfl ?_
    refine xo_rd (rd_cast (v' := .agg (gEnc ((gs.length : Int) + 1, w, now)).toArray) (rd_build (T := 101) rfl rfl rfl) (by kernel_rfl)) rfl ?_
    refine xo_ef rfl (ef_alloc fun r6 => ?_)
    refine xo_ef rfl (ef_storeB [] _ rfl rfl (by first | rfl | assumption) rfl rfl rfl ?_)
    refine xo_nil ?_
    refine xq_seq ?_
  focus
    refine xc_seq ?_
    refine xc_drawM [0, 0, 2, 4, 8, 0, 32, 80, 255, 511, 767] [0, 0, 2, 4, 8, 0, 32, 80, 255, 511, 767] [] (by kernel_rfl) (by kernel_rfl) (by kernel_rfl) ?_
    refine xm_take 0 (m' := 1) rfl (by kernel_rfl) Sb.a (rd_move rfl) rfl (by kernel_rfl) ?_
    refine xm_take 1 (m' := 3) rfl (by kernel_rfl) Sb.a (rd_move rfl) rfl (by kernel_rfl) ?_
    refine xm_take 2 (m' := 7) rfl (by kernel_rfl) Sb.a (rd_nilCheck rfl) rfl (by kernel_rfl) ?_
    refine xm_take 3 (m' := 15) rfl (by kernel_rfl) Sb.a (rd_fieldAddr rfl) rfl (by kernel_rfl) ?_
    refine xm_two 4 5 (mi := 31) (mk := 47) rfl rfl (by kernel_rfl) rfl rfl (by kernel_rfl) (by kernel_rfl) (ef_rd (rd_load1 rfl (Cl.o1 rfl)) ⟨Sb.a, ?_⟩) (ef_rd (rd_loadB rfl Kn.o0 (by rfl)) ⟨Sb.a, ?_⟩)
    refine xm_one 5 (m' := 63) rfl (by kernel_rfl) rfl (by kernel_rfl) (ef_rd (rd_loadB rfl Kn.o0 (by rfl)) ?_)
    refine ⟨Sb.a, ?_⟩
    refine xm_one 6 (m' := 127) rfl (by kernel_rfl) rfl (by kernel_rfl) (ef_sliceA (vs := gEnc ((gs.length : Int) + 1, w, now)) rfl rfl (by rw [gEnc_len]; decide) (by rw [gEnc_len]; decide) fun r23 => ?_)
    refine ⟨Sb.a, ?_⟩
    refine xm_one 7 (m' := 255) rfl (by kernel_rfl) rfl (by kernel_rfl) (ef_appendQS (_ :: _ :: _ :: _ :: wl) L gl (news := gEnc ((gs.length : Int) + 1, w, now)) rfl rfl hgs rfl (Rs.fresh (List.Mem.head _)) rfl rfl (by decide) (by omega) (by omega) fun gp2 gc2 gl2 hO2 hk2 => ?_)
    refine ⟨Sb.a, ?_⟩
    refine xm_take 8 (m' := 511) rfl (by kernel_rfl) Sb.a (rd_nilCheck rfl) rfl (by kernel_rfl) ?_
    refine xm_take 9 (m' := 1023) rfl (by kernel_rfl) Sb.a (rd_fieldAddr rfl) rfl (by kernel_rfl) ?_
    refine xm_one 10 (m' := 2047) rfl (by kernel_rfl) rfl (by kernel_rfl) (ef_store1 [_, _] _ rfl rfl (by first | rfl | assumption) rfl rfl rfl ?_)
    refine ⟨Sb.a, ?_⟩
    refine xm_done (by kernel_rfl) ?_
    refine xq_seq ?_
    refine xc_region ?_
    refine xo_rd (rd_move rfl) rfl ?_
    refine xo_rd (rd_loadB rfl Kn.o1 (by rfl)) rfl ?_
    refine xo_rd (rd_move rfl) rfl ?_
    refine xo_rd (rd_cast (v' := .agg (hEnc ((gs.length : Int) + 1) w now now true true).toArray) (rd_build (T := 133) rfl rfl rfl) (by kernel_rfl)) rfl ?_
    refine xo_rd (rd_nilCheck rfl) rfl ?_
    refine xo_rd (rd_fieldAddr rfl) rfl ?_
    refine xo_ef rfl (ef_storeW [_, _] _ 3 (vs := hEnc ((gs.length : Int) + 1) w now now true true) (cs := (fcl bound sil mb no who at' heard pend held wp wt.length wc gp gs.length gc).set (0 + 10) (.slice gp2 (gs.length + 1) gc2)) (ws := fcl bound sil mb ((gs.length : Int) + 1) w now now true true wp wt.length wc gp2 (gs.length + 1) gc2) rfl rfl rfl rfl rfl (by rw [List.length_set, fcl_len, hEnc_len]; decide) (by kernel_rfl) ?_)
    refine xo_nil ?_
    rotate_left
    refine xm_two 4 6 (mi := 63) (mk := 111) rfl rfl (by kernel_rfl) rfl rfl (by kernel_rfl) (by kernel_rfl) (ef_rd (rd_load1 rfl (Cl.o1 rfl)) ⟨Sb.a, ?_⟩) (ef_sliceA (vs := gEnc ((gs.length : Int) + 1, w, now)) rfl rfl (by rw [gEnc_len]; decide) (by rw [gEnc_len]; decide) fun r23 => ⟨Sb.a, ?_⟩)
    refine xm_one 6 (m' := 127) rfl (by kernel_rfl) rfl (by kernel_rfl) (ef_sliceA (vs := gEnc ((gs.length : Int) + 1, w, now)) rfl rfl (by rw [gEnc_len]; decide) (by rw [gEnc_len]; decide) fun r23 => ?_)
    refine ⟨Sb.a, ?_⟩
    refine xm_one 7 (m' := 255) rfl (by kernel_rfl) rfl (by kernel_rfl) (ef_appendQS (_ :: _ :: _ :: _ :: wl) L gl (news := gEnc ((gs.length : Int) + 1, w, now)) rfl rfl hgs rfl (Rs.fresh (List.Mem.head _)) rfl rfl (by decide) (by omega) (by omega) fun gp2 gc2 gl2 hO2 hk2 => ?_)
    refine ⟨Sb.a, ?_⟩
    refine xm_take 8 (m' := 511) rfl (by kernel_rfl) Sb.a (rd_nilCheck rfl) rfl (by kernel_rfl) ?_
    refine xm_take 9 (m' := 1023) rfl (by kernel_rfl) Sb.a (rd_fieldAddr rfl) rfl (by kernel_rfl) ?_
    refine xm_one 10 (m' := 2047) rfl (by kernel_rfl) rfl (by kernel_rfl) (ef_store1 [_, _] _ rfl rfl (by first | rfl | assumption) rfl rfl rfl ?_)
    refine ⟨Sb.a, ?_⟩
    refine xm_done (by kernel_rfl) ?_
    refine xq_seq ?_
    refine xc_region ?_
    refine xo_rd (rd_move rfl) rfl ?_
    refine xo_rd (rd_loadB rfl Kn.o1 (by rfl)) rfl ?_
    refine xo_rd (rd_move rfl) rfl ?_
    refine xo_rd (rd_cast (v' := .agg (hEnc ((gs.length : Int) + 1) w now now true true).toArray) (rd_build (T := 133) rfl rfl rfl) (by kernel_rfl)) rfl ?_
    refine xo_rd (rd_nilCheck rfl) rfl ?_
    refine xo_rd (rd_fieldAddr rfl) rfl ?_
    refine xo_ef rfl (ef_storeW [_, _] _ 3 (vs := hEnc ((gs.length : Int) + 1) w now now true true) (cs := (fcl bound sil mb no who at' heard pend held wp wt.length wc gp gs.length gc).set (0 + 10) (.slice gp2 (gs.length + 1) gc2)) (ws := fcl bound sil mb ((gs.length : Int) + 1) w now now true true wp wt.length wc gp2 (gs.length + 1) gc2) rfl rfl rfl rfl rfl (by rw [List.length_set, fcl_len, hEnc_len]; decide) (by kernel_rfl) ?_)
    refine xo_nil ?_
    rotate_left
    refine xm_one 4 (m' := 127) rfl (by kernel_rfl) rfl (by kernel_rfl) (ef_rd (rd_load1 rfl (Cl.o2 rfl)) ?_)
    refine ⟨Sb.a, ?_⟩
    refine xm_one 7 (m' := 255) rfl (by kernel_rfl) rfl (by kernel_rfl) (ef_appendQS (_ :: _ :: _ :: _ :: wl) L gl (news := gEnc ((gs.length : Int) + 1, w, now)) rfl rfl hgs rfl (Rs.fresh (List.Mem.head _)) rfl rfl (by decide) (by omega) (by omega) fun gp2 gc2 gl2 hO2 hk2 => ?_)
    refine ⟨Sb.a, ?_⟩
    refine xm_take 8 (m' := 511) rfl (by kernel_rfl) Sb.a (rd_nilCheck rfl) rfl (by kernel_rfl) ?_
    refine xm_take 9 (m' := 1023) rfl (by kernel_rfl) Sb.a (rd_fieldAddr rfl) rfl (by kernel_rfl) ?_
    refine xm_one 10 (m' := 2047) rfl (by kernel_rfl) rfl (by kernel_rfl) (ef_store1 [_, _] _ rfl rfl (by first | rfl | assumption) rfl rfl rfl ?_)
    refine ⟨Sb.a, ?_⟩
    refine xm_done (by kernel_rfl) ?_
    refine xq_seq ?_
    refine xc_region ?_
    refine xo_rd (rd_move rfl) rfl ?_
    refine xo_rd (rd_loadB rfl Kn.o1 (by rfl)) rfl ?_
    refine xo_rd (rd_move rfl) rfl ?_
    refine xo_rd (rd_cast (v' := .agg (hEnc ((gs.length : Int) + 1) w now now true true).toArray) (rd_build (T := 133) rfl rfl rfl) (by kernel_rfl)) rfl ?_
    refine xo_rd (rd_nilCheck rfl) rfl ?_
    refine xo_rd (rd_fieldAddr rfl) rfl ?_
    refine xo_ef rfl (ef_storeW [_, _] _ 3 (vs := hEnc ((gs.length : Int) + 1) w now now true true) (cs := (fcl bound sil mb no who at' heard pend held wp wt.length wc gp gs.length gc).set (0 + 10) (.slice gp2 (gs.length + 1) gc2)) (ws := fcl bound sil mb ((gs.length : Int) + 1) w now now true true wp wt.length wc gp2 (gs.length + 1) gc2) rfl rfl rfl rfl rfl (by rw [List.length_set, fcl_len, hEnc_len]; decide) (by kernel_rfl) ?_)
    refine xo_nil ?_
    rotate_left
  all_goals
    have hy : (Fm.mk (grantF ⟨bound, sil, ms, held, no, who, at', heard, pend, wt, gs⟩ w now) mb mo wp wc wl gp2 gc2 gl2).Ok := ⟨hmp, hw, by dsimp only [grantF]; rw [List.length_append, List.flatMap_append, List.flatMap_singleton]; exact hO2, hnd, hbd, hwb, hmn⟩
    exact xq_sub (List.sublist_append_right [_, _] _) (xq_ret0 (.inr rfl) Tryz.results97 ⟨rfl, _, hy, rfl, by simp only [Fm.blks, Fm.cells, grantF, List.length_append, List.length_singleton]; rfl⟩)
set_option maxHeartbeats 800000 in
theorem xf_end {W : World} {L : List Blk} (r : Nat) (x : Fm) (hx : x.Ok) (now : Int) (hg : x.a.gs.length ≤ 1000000) : XF Tryz.prog W 102 #[.pointer (some ⟨r, 0, none⟩), .int .u64 now] (x.blks r L) (fun v L' => v = .tuple #[] ∧ ∃ y : Fm, y.Ok ∧ y.a = endF x.a now ∧ L' = y.blks r L) := by
  obtain ⟨⟨bound, sil, ms, held, no, who, at', heard, pend, wt, gs⟩, mb, mo, wp, wc, wl, gp, gc, gl⟩ := x
  obtain ⟨hmp, hw, hgs, hnd, hbd, hwb, hmn⟩ := hx
  dsimp only at hmp hw hgs hnd hbd hwb hmn hg
  unfold Fm.blks Fm.cells
  dsimp only
  refine xf_enter (args := [_, _]) Tryz.func102 rfl Tryz.ntmps102 rfl ?_
  cases wt with
  | nil =>
    have h0 : ([] : List Int).length = 0 := rfl
    focus
      refine xc_seq ?_
      refine xc_region ?_
      refine xo_rd (rd_move rfl) rfl ?_
      refine xo_rd (rd_cast (v' := .agg (hEnc 0 0 0 0 false false).toArray) (rd_build (T := 133) rfl rfl rfl) (by kernel_rfl)) rfl ?_
      refine xo_rd (rd_nilCheck rfl) rfl ?_
      refine xo_rd (rd_fieldAddr rfl) rfl ?_
      refine xo_ef rfl (ef_storeW [] _ 3 (vs := hEnc 0 0 0 0 false false) (cs := fcl bound sil mb no who at' heard pend held wp ([] : List Int).length wc gp gs.length gc) (ws := fcl bound sil mb 0 0 0 0 false false wp ([] : List Int).length wc gp gs.length gc) rfl rfl rfl rfl rfl (by rw [fcl_len, hEnc_len]; decide) (by kernel_rfl) ?_)
      refine xo_nil ?_
      refine xq_seq ?_
      refine xc_seq ?_
      refine xc_region ?_
      refine xo_rd (rd_move rfl) rfl ?_
      refine xo_rd (rd_nilCheck rfl) rfl ?_
      refine xo_rd (rd_fieldAddr rfl) rfl ?_
      refine xo_rd (rd_load1 rfl (Cl.o0 rfl)) rfl ?_
      refine xo_rd (rd_len rfl) rfl ?_
      refine xo_rd (rd_gtr rfl rfl) rfl ?_
      refine xo_nil ?_
      refine xq_seq ?_
      refine xc_condf rfl ?_
      refine xc_skip ?_
    exact xq_ret0 (.inr rfl) Tryz.results102 ⟨rfl, ⟨freeF ⟨bound, sil, ms, held, no, who, at', heard, pend, [], gs⟩ [], mb, mo, wp, wc, wl, gp, gc, gl⟩, ⟨hmp, hw, hgs, hnd, hbd, hwb, hmn⟩, rfl, rfl⟩
  | cons w wt =>
    obtain ⟨b, o, hpb, hcb⟩ := (hw.rs (W := W) (L := (r, Obj.cells (fcl bound sil mb 0 0 0 0 false false wp (w :: wt).length wc gp gs.length gc).toArray 136 (0, 0)) :: (mb, mo) :: (wl ++ (gl ++ L))) (by intro z hz; simp [hz])).int (i := 0) (Nat.succ_pos _)
    have hcut := hw.cut 1 (by rw [List.length_cons]; omega)
    rw [List.getElem_cons_zero] at hcb
    have h0 : 0 < (w :: wt).length := Nat.succ_pos _
    have e1 : (w :: wt).length - 1 = wt.length := rfl
    rw [List.length_cons] at hwb
    subst hpb
    have hgr := fun wp' (wc' : Nat) (hw2 : SlQ 1 36 (.slice wp' wt.length wc') wt.length (ints .u32 wt) wl) => xf_grant (W := W) (L := L) r ⟨freeF ⟨bound, sil, ms, held, no, who, at', heard, pend, w :: wt, gs⟩ wt, mb, mo, wp', wc', wl, gp, gc, gl⟩ ⟨hmp, hw2, hgs, hnd, hbd, by dsimp only [freeF]; omega, hmn⟩ w now hg
    focus
      refine xc_seq ?_
      refine xc_region ?_
      refine xo_rd (rd_move rfl) rfl ?_
      refine xo_rd (rd_cast (v' := .agg (hEnc 0 0 0 0 false false).toArray) (rd_build (T := 133) rfl rfl rfl) (by kernel_rfl)) rfl ?_
      refine xo_rd (rd_nilCheck rfl) rfl ?_
      refine xo_rd (rd_fieldAddr rfl) rfl ?_
      refine xo_ef rfl (ef_storeW [] _ 3 (vs := hEnc 0 0 0 0 false false) (cs := fcl bound sil mb no who at' heard pend held (some ⟨b, o, none⟩) (w :: wt).length wc gp gs.length gc) (ws := fcl bound sil mb 0 0 0 0 false false (some ⟨b, o, none⟩) (w :: wt).length wc gp gs.length gc) rfl rfl rfl rfl rfl (by rw [fcl_len, hEnc_len]; decide) (by kernel_rfl) ?_)
      refine xo_nil ?_
      refine xq_seq ?_
      refine xc_seq ?_
      refine xc_region ?_
      refine xo_rd (rd_move rfl) rfl ?_
      refine xo_rd (rd_nilCheck rfl) rfl ?_
      refine xo_rd (rd_fieldAddr rfl) rfl ?_
      refine xo_rd (rd_load1 rfl (Cl.o0 rfl)) rfl ?_
      refine xo_rd (rd_len rfl) rfl ?_
      refine xo_rd (rd_gtr rfl rfl) rfl ?_
      refine xo_nil ?_
      refine xq_seq ?_
      refine xc_dec rfl (fun h1 => ?_) (fun h1 => (by exfalso; omega))
      refine xc_seq ?_
      refine xc_region ?_
      refine xo_rd (rd_move rfl) rfl ?_
      refine xo_rd (rd_nilCheck rfl) rfl ?_
      refine xo_rd (rd_fieldAddr rfl) rfl ?_
      refine xo_rd (rd_load1 rfl (Cl.o0 rfl)) rfl ?_
      refine xo_rd (rd_indexAddr rfl rfl (by decide) (by show (0 : Int) < ((wt.length + 1 : Nat) : Int); omega)) rfl ?_
      refine xo_rd (rd_load1 rfl hcb) rfl ?_
      refine xo_rd (rd_assign rfl) rfl ?_
      refine xo_nil ?_
      refine xq_seq ?_
      refine xc_seq ?_
      refine xc_region ?_
      refine xo_rd (rd_move rfl) rfl ?_
      refine xo_rd (rd_move rfl) rfl ?_
      refine xo_rd (rd_nilCheck rfl) rfl ?_
      refine xo_rd (rd_fieldAddr rfl) rfl ?_
      refine xo_rd (rd_load1 rfl (Cl.o0 rfl)) rfl ?_
      refine xo_rd (rd_cast (v' := .slice (slp (some ⟨b, o, none⟩) wc 1 1) wt.length (wc - 1)) (rd_slLo rfl rfl (by decide) (by rw [List.length_cons]; omega)) rfl) rfl ?_
      refine xo_rd (rd_nilCheck rfl) rfl ?_
      refine xo_rd (rd_fieldAddr rfl) rfl ?_
      refine xo_ef rfl (ef_store1 [] _ rfl rfl (by first | rfl | assumption) rfl rfl rfl ?_)
      refine xo_nil ?_
      refine xq_seq ?_
      refine xc_region ?_
      refine xo_rd (rd_move rfl) rfl ?_
      refine xo_rd (rd_move rfl) rfl ?_
      refine xo_rd (rd_move rfl) rfl ?_
      refine xo_ef rfl (ef_call rfl (XF.mono (hgr _ _ hcut) ?_))
      rintro v L' ⟨rfl, y, hy, hya, rfl⟩
      refine xo_nil ?_
    exact xq_ret0 (.inr rfl) Tryz.results102 ⟨rfl, y, hy, hya, rfl⟩
end Go.Proofs.YtmdeajdaeihniaaGreat.X
