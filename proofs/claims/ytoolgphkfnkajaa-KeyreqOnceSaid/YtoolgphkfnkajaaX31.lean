/-
  Words of my own for walks: a range over a map; calls of function values of which the answer is known. No condition; generic over the program.
-/
import Derived.Test.YtoolgphkfnkajaaX8
import Derived.Test.YtoolgphkfnkajaaX28
import Derived.Laws.IdiomRangeMap
namespace Go.Proofs.Ytoolgphkfnkajaa.X
open Go Go.RowKit
set_option linter.unusedVariables false
set_option linter.unusedSimpArgs false
theorem ef_callk {P : Program} {W : World} {n : Nat} {L : List Blk} {E : List (Nat × Value)} {d : Option Nat} {t : TypeId} {pos : String} {after : Array Edge} {g : Option (Nat × Bool)} {K : Value → List Blk → Prop} {f : Nat} {x : Operand} {args : List Operand} {ts : Array TypeId} {vs first cap : List Value} {r : Value} [hC : Cf P f] (hx : ev E x = some (.func (.func f) first.toArray cap.toArray)) (h : evs E args = some vs) (hf : XF P W f (first ++ vs ++ cap).toArray L (fun v L' => v = r ∧ L' = L)) (hk : K r L) :
    EF P W n L E ⟨d, .call ⟨.value x, args.toArray, ts⟩, t, pos, after, g⟩ K := ef_callv hx h (hf.mono fun v L' hv => by rw [hv.1, hv.2]; exact hk)

/-- A map that is ranged over, and where the range stands: left: the keys still to come; cur: the one at hand. -/
def MpR (k : IntKind) (m : Nat) (o it : Obj) (f : Int → Option Value) (sz : Nat) (left : List Int) (cur : Option Int) : Prop :=
  ∃ (l : List (Int × Value × Nat)) (c : Nat) (seen : Array Nat), o = .map (ments k l) c ∧ it = .mapIter (some m) c seen c ∧ (l.map (·.1)).Nodup ∧ l.length = sz ∧ (∀ n, mfind l n = f n) ∧ (l.map (·.2.2)).Nodup ∧ (∀ e, e ∈ l → e.2.2 < c) ∧
    (∀ e, e ∈ l → (seen.contains e.2.2 = false ↔ e.1 ∈ left)) ∧ (∀ n, n ∈ left → n ∈ l.map (·.1)) ∧ left.Nodup ∧ (∀ n, cur = some n → ∃ v b, (n, v, b) ∈ l ∧ seen.back? = some b)
theorem MpR.is {k : IntKind} {m : Nat} {o it : Obj} {f : Int → Option Value} {sz : Nat} {left : List Int} {cur : Option Int} (h : MpR k m o it f sz left cur) : MpIs k o f sz := by
  obtain ⟨l, c, seen, h1, _, h3, h4, h5, h6, h7, _⟩ := h
  exact ⟨l, c, h1, h3, h4, h5, h6, h7⟩
theorem mfind_mem : ∀ {l : List (Int × Value × Nat)} (hn : (l.map (·.1)).Nodup) {e : Int × Value × Nat}, e ∈ l → mfind l e.1 = some e.2.1
  | x :: r, hn, e, h => by
    rw [List.map_cons, List.nodup_cons] at hn
    rw [mfind_cons]
    rcases List.mem_cons.1 h with rfl | h
    · simp
    · have : ¬ e.1 = x.1 := fun e' => hn.1 (e' ▸ List.mem_map.2 ⟨e, h, rfl⟩)
      rw [if_neg this]; exact mfind_mem hn.2 h
theorem mfind_some : ∀ {l : List (Int × Value × Nat)} {n : Int} {v : Value}, mfind l n = some v → n ∈ l.map (·.1)
  | x :: r, n, v, h => by
    rw [mfind_cons] at h
    split at h
    · rename_i e; subst e; simp
    · exact List.mem_cons_of_mem _ (mfind_some h)
section
variable {P : Program} {W : World} {n : Nat} {L : List Blk} {E : List (Nat × Value)} {d : Option Nat} {t : TypeId} {pos : String} {after : Array Edge} {g : Option (Nat × Bool)} {K : Value → List Blk → Prop}
theorem ef_range {T kt et r : Nat} {x : Operand} {k : IntKind} {o : Obj} {f : Int → Option Value} {sz : Nat} [hT : Mp P T kt et] (hm : MpIs k o f sz) (hx : ev E x = some (.map (some r))) (hKn : Kn W L r o)
    (hK : ∀ b it left, MpR k r o it f sz left none → left.length = sz → (∀ n, n ∈ left ↔ (f n).isSome = true) → K (.pointer (some ⟨b, 0, none⟩)) ((b, it) :: L)) : EF P W n L E ⟨d, .range T x, t, pos, after, g⟩ K := by
  refine ⟨fun a w ha hw => ?_⟩
  obtain ⟨l, c, rfl, hnd, hsz, hf, hbn, hbc⟩ := hm
  have h1 := run_range_map (P := P) w T kt et r (ments k l) c hT.h (hKn.get hw)
  have hrun : (execOp a.eval ⟨d, .range T x, t, pos, after, g⟩).run P w = .ok (.value (.pointer (some ⟨w.heap.size, 0, none⟩))) (w.alloc (.mapIter (some r) c #[] c)) := by
    simp only [execOp, ha.eval hx, Sem.run_bind, h1, Result.andThen_ok]
    rfl
  rw [hrun]
  refine ⟨_, hw.alloc _, hK _ _ (l.map (·.1)) ⟨l, c, #[], rfl, rfl, hnd, hsz, hf, hbn, hbc, ?_, fun n hn => hn, hnd, fun n h => by cases h⟩ (by rw [List.length_map, hsz]) fun n => ?_⟩
  · intro e he
    simp only [List.mem_map]
    exact ⟨fun _ => ⟨e, he, rfl⟩, fun _ => by simp⟩
  · constructor
    · intro h
      obtain ⟨e, he, rfl⟩ := List.mem_map.1 h
      rw [← hf, mfind_mem hnd he]; rfl
    · intro h
      rw [← hf] at h
      obtain ⟨v, hv⟩ := Option.isSome_iff_exists.1 h
      exact mfind_some hv
theorem run_chooseMap (n : Nat) (hn : 0 < n) (w : World) : ∃ (j : Nat) (w1 : World), j < n ∧ (w1 = w ∨ w1 = { w with drawn := w.drawn + 1 }) ∧ (choose (Question.mapNext n)).run P w = .ok j w1 := by
  by_cases hf : n ≤ 1
  · exact ⟨0, w, by omega, .inl rfl, by simp [choose, Sem.run, Question.forced, hf]⟩
  · exact ⟨_, w.drew, Nat.mod_lt _ (by omega), .inr rfl, by
      simp only [choose, Sem.run, Question.forced, decide_eq_true_eq, hf, if_false, Question.cut]
      rfl⟩
theorem run_nextMap (w : World) (ty : TypeId) (b bm c : Nat) (seen : Array Nat) (es : Array MapEntry) (hi : w.heap[b]? = some (.mapIter (some bm) c seen c)) (hb : w.heap[bm]? = some (.map es c)) (hold : ∀ x ∈ es.toList, x.born < c) :
    ((leftOf es seen).size = 0 ∧ (Instr.next (.pointer (some ⟨b, 0, none⟩)) false ty).run P w = .ok (.tuple #[.bool false]) w) ∨
    ∃ e ∈ (leftOf es seen).toList, ∃ w1 : World, (w1 = w ∨ w1 = { w with drawn := w.drawn + 1 }) ∧ (Instr.next (.pointer (some ⟨b, 0, none⟩)) false ty).run P w = .ok (.tuple #[.bool true, e.key, e.val]) { w1 with heap := w1.heap.setIfInBounds b (.mapIter (some bm) c (seen.push e.born) c) } := by
  simp only [Instr.next, getObj, Sem.run_bind, Sem.run, hi, hb, Result.andThen, next_test_false seen es c c hold (Nat.le_refl _), Bool.false_eq_true, if_false]
  unfold leftOf
  have hmem : ∀ x ∈ (Array.filter (fun e => !seen.contains e.born) es).toList, x.born < c := fun x hx => hold x (by simp at hx ⊢; exact hx.1)
  generalize Array.filter (fun e => !seen.contains e.born) es = L at hmem ⊢
  have e1 : L.filter (fun x => decide (x.born < c)) = L := Array.filter_eq_self.2 (fun x hx => by simpa using hmem x (by simpa using hx))
  have e2 : L.filter (fun x => decide (x.born ≥ c)) = #[] := by
    rw [Array.filter_eq_empty_iff]
    intro x hx
    have := hmem x (by simpa using hx)
    simp
    omega
  simp only [e1, e2, Array.append_empty]
  by_cases h0 : L.size = 0
  · left
    have : L = #[] := Array.eq_empty_of_size_eq_zero h0
    subst this
    refine ⟨rfl, ?_⟩
    simp [choose, Sem.run, Question.forced]
  · right
    have hne : L.isEmpty = false := by simp [Array.isEmpty, h0]
    simp only [hne, Bool.false_eq_true, if_false, Array.empty_append, Array.size_map]
    obtain ⟨j, w1, hj, hal, hrun⟩ := run_chooseMap (P := P) L.size (by omega) w
    refine ⟨L[j], by simp, w1, hal, ?_⟩
    have hh : w1.heap = w.heap := by rcases hal with rfl | rfl <;> rfl
    have hset : ∀ o' : Obj, (setObj b o').run P w1 = .ok () { w1 with heap := w1.heap.setIfInBounds b o' } := fun o' => by
      simp only [setObj, Sem.run, hh, hi]
    simp only [hrun, Array.getElem?_map, Array.getElem?_eq_getElem hj, Option.map_some, Sem.run_bind, hset, Result.andThen]
    rfl
theorem ef_next (A R : List Blk) {b m : Nat} {x : Operand} {k : IntKind} {o it : Obj} {f : Int → Option Value} {sz : Nat} {left : List Int} {cur : Option Int} (hm : MpR k m o it f sz left cur) (hx : ev E x = some (.pointer (some ⟨b, 0, none⟩))) (hL : L = A ++ (b, it) :: R) (hKn : Kn W L m o)
    (h0 : left = [] → K (.tuple #[.bool false]) L) (h1 : ∀ n v it', n ∈ left → f n = some v → MpR k m o it' f sz (left.erase n) (some n) → K (.tuple #[.bool true, .int k n, v]) (A ++ (b, it') :: R)) : EF P W n L E ⟨d, .next x false, t, pos, after, g⟩ K := by
  refine ⟨fun a w ha hw => ?_⟩
  obtain ⟨l, c, seen, rfl, rfl, hnd, hsz, hf, hbn, hbc, hsn, hlk, hln, hcur⟩ := hm
  have hi : w.heap[b]? = some (.mapIter (some m) c seen c) := by subst hL; exact hw.mid
  have hb := hKn.get hw
  have hex : ∀ u w', (Instr.next (.pointer (some ⟨b, 0, none⟩)) false t).run P w = .ok u w' → (execOp a.eval ⟨d, .next x false, t, pos, after, g⟩).run P w = .ok (.value u) w' := fun u w' h => by
    simp only [execOp, ha.eval hx, Sem.run_bind, h, Result.andThen_ok]
    rfl
  rcases run_nextMap (P := P) w t b m c seen (ments k l) hi hb (fun y hy => by
    simp only [ments, List.mem_map] at hy
    obtain ⟨e, he, rfl⟩ := hy
    exact hbc e he) with ⟨hz, hr⟩ | ⟨e, he, w1, hw1, hr⟩
  · rw [hex _ _ hr]
    refine ⟨L, hw, h0 ?_⟩
    refine List.eq_nil_iff_forall_not_mem.2 fun q hq => ?_
    obtain ⟨e, he, rfl⟩ := List.mem_map.1 (hlk q hq)
    have h2 := (hsn e he).2 hq
    have h3 : (⟨.int k e.1, e.2.1, e.2.2⟩ : MapEntry) ∈ leftOf (ments k l) seen := by
      unfold leftOf
      refine Array.mem_filter.2 ⟨?_, by simp only [h2]; rfl⟩
      simp only [ments, List.mem_toArray, List.mem_map]
      exact ⟨e, he, rfl⟩
    have h4 : leftOf (ments k l) seen = #[] := Array.eq_empty_of_size_eq_zero hz
    rw [h4] at h3
    cases h3
    rename_i h3; cases h3
  · rw [hex _ _ hr]
    obtain ⟨he1, he2⟩ := mem_left he
    simp only [ments, List.mem_map] at he1
    obtain ⟨q, hq, rfl⟩ := he1
    dsimp only at he2 hr ⊢
    have hw1' : Hp W w1 L := by
      rcases hw1 with rfl | rfl
      · exact hw
      · exact hw.drew
    have hi1 : w1.heap[b]? = some (.mapIter (some m) c seen c) := by rcases hw1 with rfl | rfl <;> exact hi
    have hlt : b < w1.heap.size := (Array.getElem?_eq_some_iff.1 hi1).1
    have hlq := (hsn q hq).1 he2
    refine ⟨A ++ (b, .mapIter (some m) c (seen.push q.2.2) c) :: R, ?_, h1 q.1 q.2.1 _ hlq (by rw [← hf, mfind_mem hnd hq]) ⟨l, c, seen.push q.2.2, rfl, rfl, hnd, hsz, hf, hbn, hbc, ?_, fun z hz => hlk z (List.mem_of_mem_erase hz), hln.erase _, ?_⟩⟩
    · subst hL
      exact hw1'.turnAt rfl rfl rfl (Array.getElem?_setIfInBounds_self_of_lt hlt) (fun q hq => Array.getElem?_setIfInBounds_ne (Ne.symm hq))
    · intro e he
      rw [contains_push, Bool.or_eq_false_iff, hsn e he, hln.mem_erase_iff]
      constructor
      · rintro ⟨h2, h3⟩
        refine ⟨fun e1 => ?_, h2⟩
        have : e = q := by
          have h5 := mfind_mem hnd he
          obtain ⟨i, hi', hie⟩ := List.mem_iff_getElem.1 he
          obtain ⟨j, hj', hje⟩ := List.mem_iff_getElem.1 hq
          have hij : i = j := by
            have := (List.getElem_inj (xs := l.map (·.1)) (i := i) (j := j) (h₀ := by simpa using hi') (h₁ := by simpa using hj') hnd).1 (by simp only [List.getElem_map, hie, hje]; exact e1)
            exact this
          subst hij
          rw [← hie, ← hje]
        subst this
        simp at h3
      · rintro ⟨h2, h3⟩
        refine ⟨h3, ?_⟩
        cases hc : e.2.2 == q.2.2 with
        | false => rfl
        | true =>
          exfalso
          apply h2
          have e1 := eq_of_beq hc
          obtain ⟨i, hi', hie⟩ := List.mem_iff_getElem.1 he
          obtain ⟨j, hj', hje⟩ := List.mem_iff_getElem.1 hq
          have hij : i = j := (List.getElem_inj (xs := l.map (·.2.2)) (i := i) (j := j) (h₀ := by simpa using hi') (h₁ := by simpa using hj') hbn).1 (by simp only [List.getElem_map, hie, hje]; exact e1)
          subst hij
          rw [← hie, ← hje]
    · intro z hz
      cases hz
      exact ⟨q.2.1, q.2.2, hq, by simp⟩
theorem rd_entry {b m : Nat} {x : Operand} {k : IntKind} {o it : Obj} {f : Int → Option Value} {sz : Nat} {left : List Int} {z : Int} {v : Value} (hm : MpR k m o it f sz left (some z)) (hv : f z = some v) (hx : ev E x = some (.pointer (some ⟨b, 0, none⟩))) (hI : Kn W L b it) (hKn : Kn W L m o) :
    RD P W n L E ⟨d, .entry x, t, pos, after, g⟩ (.tuple #[.int k z, v]) := .mk fun a w ha hw => by
  obtain ⟨l, c, seen, rfl, rfl, hnd, hsz, hf, hbn, hbc, hsn, hlk, hln, hcur⟩ := hm
  have h1 := hI.get hw
  have h2 := hKn.get hw
  obtain ⟨v', b', hmem, hbk⟩ := hcur z rfl
  have hvv : v' = v := by
    have := mfind_mem hnd hmem
    rw [hf, hv] at this
    exact (Option.some.inj this).symm
  subst hvv
  have hfd : (ments k l).find? (fun e => e.born == b') = some ⟨.int k z, v', b'⟩ := by
    rw [← Array.find?_toList]
    have hb2 : ((ments k l).toList.map (·.born)).Nodup := by
      simp only [ments, List.map_map]
      exact hbn
    exact find_born ⟨.int k z, v', b'⟩ (ments k l).toList hb2 (by simp only [ments, List.mem_map]; exact ⟨_, hmem, rfl⟩)
  have hr : (Instr.entry (.pointer (some ⟨b, 0, none⟩))).run P w = .ok (.tuple #[.int k z, v']) w := by
    simp only [Instr.entry, getObj, Sem.run_bind, Sem.run, h1, h2, Result.andThen, hbk, bne_self_eq_false, Bool.false_eq_true, if_false, hfd]
    rfl
  simp only [execOp, ha.eval hx, Sem.run_bind, hr, Result.andThen_ok]
  rfl
/-- What is there already is laid anew, within a range. -/
theorem ef_mapUpdateR (A R : List Blk) {T kt et m : Nat} {x y u : Operand} {k : IntKind} {i : Int} {v : Value} {o it : Obj} {f : Int → Option Value} {sz : Nat} {left : List Int} {cur : Option Int} [hT : Mp P T kt et] [hk : Ik P kt k] (hm : MpR k m o it f sz left cur) (hi : (f i).isSome = true) (hx : ev E x = some (.map (some m))) (hy : ev E y = some (.int k i)) (hu : ev E u = some v)
    (hL : L = A ++ (m, o) :: R) (hK : ∀ o', MpR k m o' it (mupd f i (some v)) sz left cur → K undef (A ++ (m, o') :: R)) : EF P W n L E ⟨d, .mapUpdate T x y u, t, pos, after, g⟩ K := by
  refine ⟨fun a w ha hw => ?_⟩
  obtain ⟨l, c, seen, rfl, rfl, hnd, hsz, hf, hbn, hbc, hsn, hlk, hln, hcur⟩ := hm
  subst hL
  have h1 := hw.mid
  have h2 := run_checkKey (P := P) (kt := kt) (k := k) false i w
  have h3 := run_findKey (P := P) (kt := kt) (k := k) i l w
  have h5 : (getObj m).run P w = .ok (.map (ments k l) c) w := by simp [getObj, Sem.run, h1]
  have hset : ∀ o', (setObj m o').run P w = .ok () { w with heap := w.heap.setIfInBounds m o' } := fun o' => by simp [setObj, Sem.run, h1]
  have hlt : m < w.heap.size := (Array.getElem?_eq_some_iff.1 h1).1
  have hturn : ∀ o', Hp W { w with heap := w.heap.setIfInBounds m o' } (A ++ (m, o') :: R) := fun o' =>
    hw.turnAt rfl rfl rfl (Array.getElem?_setIfInBounds_self_of_lt hlt) (fun q hq => Array.getElem?_setIfInBounds_ne (Ne.symm hq))
  have hrun : (execOp a.eval ⟨d, .mapUpdate T x y u, t, pos, after, g⟩).run P w = ((Instr.mapUpdate T (.map (some m)) (.int k i) v).run P w).andThen fun _ w' => .ok .skip w' := by
    simp [execOp, ha.eval hx, ha.eval hy, ha.eval hu]
  rw [hrun]
  simp only [Instr.mapUpdate, Sem.run_bind, run_underlying hT.h, Result.andThen_ok, h5, h2, h3]
  have hfi := hf i
  rw [← midx_find] at hfi
  cases hmi : midx l i with
  | none => rw [hmi] at hfi; rw [← hfi] at hi; cases hi
  | some q =>
    obtain ⟨j, v0⟩ := q
    obtain ⟨b, hb⟩ := midx_some l i j v0 hmi
    have hes : (ments k l)[j]? = some ⟨.int k i, v0, b⟩ := by simp [ments, hb]
    have hkt : (Instr.keyThatStays (((ments k l)[j]?.map (·.key)).getD (.int k i)) (.int k i)).run P w = .ok (.int k i) w := by
      rw [hes]
      simp [Instr.keyThatStays, sameBits_int]
    simp only [Sem.run_bind, hkt, Result.andThen_ok, hset]
    have hk1 : (l.set j (i, v, b)).map (·.1) = l.map (·.1) := by
      apply List.ext_getElem?
      intro q
      simp only [List.getElem?_map, List.getElem?_set]
      by_cases hq : j = q
      · subst hq
        obtain ⟨hj, hv⟩ := List.getElem?_eq_some_iff.1 hb
        simp [hv, hj]
      · simp [hq]
    have hold : (i, v0, b) ∈ l := List.mem_of_getElem? hb
    refine ⟨_, hturn _, hK _ ⟨l.set j (i, v, b), c, seen, ?_, rfl, ?_, by rw [List.length_set, hsz], fun m => ?_, born_set hb hbn, fun e he => ?_, fun e he => ?_, fun z hz => by rw [hk1]; exact hlk z hz, hln, fun z hz => ?_⟩⟩
    · congr 1
      apply Array.ext'
      simp only [ments, Array.toList_modify]
      apply List.ext_getElem?
      intro q
      simp only [List.getElem?_modify, List.getElem?_map, List.getElem?_set]
      by_cases hq : j = q
      · subst hq
        obtain ⟨hj, hv⟩ := List.getElem?_eq_some_iff.1 hb
        simp [hv, hj]
      · simp [hq]
    · rw [hk1]; exact hnd
    · rw [mfind_set l i j v0 v b b hnd hb m, hf m]; rfl
    · rcases List.mem_or_eq_of_mem_set he with he | rfl
      · exact hbc e he
      · exact hbc (i, v0, b) hold
    · rcases List.mem_or_eq_of_mem_set he with he | rfl
      · exact hsn e he
      · exact hsn (i, v0, b) hold
    · obtain ⟨v', b', hmem, hbk⟩ := hcur z hz
      by_cases hzi : z = i
      · subst hzi
        have hbb : b' = b := by
          obtain ⟨i1, hi1, hie⟩ := List.mem_iff_getElem.1 hmem
          obtain ⟨j1, hj1, hje⟩ := List.mem_iff_getElem.1 hold
          have hij : i1 = j1 := (List.getElem_inj (xs := l.map (·.1)) (i := i1) (j := j1) (h₀ := by simpa using hi1) (h₁ := by simpa using hj1) hnd).1 (by simp only [List.getElem_map, hie, hje])
          subst hij
          rw [hie] at hje
          simpa using congrArg (·.2.2) hje
        subst hbb
        have hj := (List.getElem?_eq_some_iff.1 hb).1
        exact ⟨v, b', List.mem_of_getElem? (i := j) (by rw [List.getElem?_set]; simp [hj]), hbk⟩
      · refine ⟨v', b', ?_, hbk⟩
        obtain ⟨q, hq⟩ := List.mem_iff_getElem?.1 hmem
        have hqj : j ≠ q := fun e => by
          subst e
          rw [hb] at hq
          exact hzi (by simpa using (congrArg (·.1) (Option.some.inj hq)).symm)
        exact List.mem_of_getElem? (i := q) (by rw [List.getElem?_set, if_neg hqj]; exact hq)
end
end Go.Proofs.Ytoolgphkfnkajaa.X
