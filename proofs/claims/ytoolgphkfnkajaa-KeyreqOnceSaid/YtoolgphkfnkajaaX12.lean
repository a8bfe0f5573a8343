/-
  Words of my own for walks, twelfth part: regions whose order is open, with what has come up kept as the bits of one number. No condition; generic over the program.
-/
import Derived.Test.YtoolgphkfnkajaaX11
namespace Go.Proofs.Ytoolgphkfnkajaa.X
open Go Go.RowKit
set_option linter.unusedVariables false
set_option linter.unusedSimpArgs false

theorem tb_foldl {α : Type} (p : α → Bool) (f : α → Nat) : ∀ (l : List α) (m k : Nat), (l.foldl (fun m x => if p x then m ||| (1 <<< f x) else m) m).testBit k = (m.testBit k || l.any fun x => p x && f x == k)
  | [], m, k => by simp
  | x :: r, m, k => by
    rw [List.foldl_cons, tb_foldl p f r, List.any_cons]
    cases hp : p x
    · simp
    · simp only [if_true, Nat.testBit_or, Nat.one_shiftLeft, Nat.testBit_two_pow, Bool.true_and]
      rw [Bool.or_assoc]
      congr 2
theorem land_sub {t m k : Nat} (h : Nat.land t m = t) (hk : t.testBit k = true) : m.testBit k = true := by
  have h1 : (t &&& m).testBit k = t.testBit k := by rw [show t &&& m = t from h]
  rw [Nat.testBit_and, hk] at h1
  simpa using h1
theorem land_of {t m : Nat} (h : ∀ k, t.testBit k = true → m.testBit k = true) : Nat.land t m = t := by
  apply Nat.eq_of_testBit_eq
  intro k
  show (t &&& m).testBit k = _
  rw [Nat.testBit_and]
  cases hk : t.testBit k
  · rfl
  · rw [h k hk]; rfl

def edgeMask (o : Oper) : Nat := o.after.toList.foldl (fun m e => if Region.binds .any e then m ||| (1 <<< e.on) else m) 0
def pmOf (ops : Array Oper) : List Nat := ops.toList.map edgeMask
def waitsFor (oj : Oper) (i : Nat) : Bool := oj.after.any (fun e => Region.binds .any e && e.on == i)
def confMask (ops : Array Oper) (l : List (Oper × Nat)) (oi : Oper) (i : Nat) : Nat := l.foldl (fun m q => if !(q.2 == i || waitsFor q.1 i || oi.apart ops q.1) then m ||| (1 <<< q.2) else m) 0
def tmOf (ops : Array Oper) : List Nat := ops.toList.zipIdx.map fun q => Nat.lor (edgeMask q.1) (confMask ops ops.toList.zipIdx q.1 q.2)
def readyM : List (Nat × Nat) → Nat → List Nat
  | [], _ => []
  | (p, i) :: r, m => match Nat.beq (Nat.land p m) p && !Nat.testBit m i with
    | true => i :: readyM r m
    | false => readyM r m
def okB (tm : List Nat) (m i : Nat) : Bool := match tm[i]? with
  | some t => Nat.beq (Nat.land t m) t && !Nat.testBit m i
  | none => false

structure Rep (N : Nat) (listed : Array Bool) (m : Nat) : Prop where
  size : listed.size = N
  bit : ∀ j, listed.getD j false = m.testBit j
theorem Rep.start (N : Nat) : Rep N (Array.replicate N false) 0 := ⟨by simp, fun j => by simp [Array.getD_eq_getD_getElem?, Array.getElem?_replicate]; split <;> rfl⟩
theorem Rep.bit' {N m : Nat} {listed : Array Bool} (h : Rep N listed m) {j : Nat} (hj : j < N) : listed.getD j true = m.testBit j := by
  rw [← h.bit j]
  have : j < listed.size := by rw [h.size]; exact hj
  simp [Array.getD_eq_getD_getElem?, this]
theorem Rep.set {N m i : Nat} {listed : Array Bool} (h : Rep N listed m) (hi : i < N) : Rep N (listed.setIfInBounds i true) (m ||| (1 <<< i)) := by
  refine ⟨by simp [h.size], fun j => ?_⟩
  have hs : i < listed.size := by rw [h.size]; exact hi
  rw [Nat.testBit_or, ← h.bit j, Nat.one_shiftLeft, Nat.testBit_two_pow]
  by_cases hij : i = j
  · subst hij; simp [Array.getD_eq_getD_getElem?, hs]
  · simp [Array.getD_eq_getD_getElem?, hij]

theorem edge_bit {o : Oper} {k : Nat} : (edgeMask o).testBit k = o.after.any fun e => Region.binds .any e && e.on == k := by
  unfold edgeMask
  rw [tb_foldl (fun e => Region.binds .any e) (fun e : Edge => e.on)]
  simp
theorem ready_iff {ops : Array Oper} {listed : Array Bool} {m : Nat} (h : Rep ops.size listed m) {i : Nat} {o : Oper} (ho : ops[i]? = some o) :
    i ∈ Region.ready .any ops listed ↔ (Nat.beq (Nat.land (edgeMask o) m) (edgeMask o) && !Nat.testBit m i) = true := by
  have hi := (Array.getElem?_eq_some_iff.1 ho).1
  rw [mem_ready, h.bit' hi, Bool.and_eq_true, Nat.beq_eq]
  constructor
  · rintro ⟨h1, o', ho', h2⟩
    rw [ho] at ho'
    cases ho'
    refine ⟨land_of fun k hk => ?_, by simp [h1]⟩
    rw [edge_bit, Array.any_eq_true'] at hk
    obtain ⟨e, he, hb⟩ := hk
    simp only [Bool.and_eq_true, beq_iff_eq] at hb
    rw [← h.bit, ← hb.2]
    exact h2 e he hb.1
  · rintro ⟨h1, h2⟩
    refine ⟨by simpa using h2, o, ho, fun e he hb => ?_⟩
    rw [h.bit]
    refine land_sub h1 ?_
    rw [edge_bit, Array.any_eq_true']
    exact ⟨e, he, by simp [hb]⟩
theorem readyM_mem {m : Nat} : ∀ (l : List (Nat × Nat)) (i : Nat), i ∈ readyM l m ↔ ∃ p, (p, i) ∈ l ∧ (Nat.beq (Nat.land p m) p && !Nat.testBit m i) = true
  | [], i => by simp [readyM]
  | (p, k) :: r, i => by
    unfold readyM
    have ih := readyM_mem (m := m) r i
    split
    · rename_i hb
      rw [List.mem_cons, ih]
      constructor
      · rintro (rfl | ⟨q, hq, h⟩)
        · exact ⟨p, List.mem_cons_self, hb⟩
        · exact ⟨q, List.mem_cons_of_mem _ hq, h⟩
      · rintro ⟨q, hq, h⟩
        rcases List.mem_cons.1 hq with e | hq
        · cases e; exact .inl rfl
        · exact .inr ⟨q, hq, h⟩
    · rename_i hb
      rw [ih]
      constructor
      · rintro ⟨q, hq, h⟩
        exact ⟨q, List.mem_cons_of_mem _ hq, h⟩
      · rintro ⟨q, hq, h⟩
        rcases List.mem_cons.1 hq with e | hq
        · cases e; rw [h] at hb; cases hb
        · exact ⟨q, hq, h⟩
theorem ready_readyM {ops : Array Oper} {listed : Array Bool} {m : Nat} (h : Rep ops.size listed m) (i : Nat) : i ∈ Region.ready .any ops listed ↔ i ∈ readyM (pmOf ops).zipIdx m := by
  rw [readyM_mem]
  constructor
  · intro hi
    obtain ⟨_, o, ho, _⟩ := mem_ready.1 hi
    refine ⟨edgeMask o, ?_, (ready_iff h ho).1 hi⟩
    rw [List.mem_zipIdx_iff_getElem?]
    simp [pmOf, ho]
  · rintro ⟨p, hp, hb⟩
    rw [List.mem_zipIdx_iff_getElem?] at hp
    simp only [pmOf, List.getElem?_map, Array.getElem?_toList, Option.map_eq_some_iff] at hp
    obtain ⟨o, ho, rfl⟩ := hp
    exact (ready_iff h ho).2 hb

structure XM (P : Program) (W : World) (n : Nat) (ops : Array Oper) (Q : Exit → Act → World → Prop) (M : List Blk) (pm tm : List Nat) (fuel m : Nat) (L : List Blk) (E : List (Nat × Value)) : Prop where
  run : pmOf ops = pm → tmOf ops = tm → Region.noSelect ops = true → ∀ listed, Rep ops.size listed m → ∀ a w, Env n a E → Hp W w L → wpAnyH P .any ops (NoPanic Q) (fun w => Hp W w M) fuel listed a w

section
variable {P : Program} {W : World} {n : Nat} {ops : Array Oper} {Q : Exit → Act → World → Prop} {M L : List Blk} {pm tm : List Nat} {fuel m m' : Nat} {E : List (Nat × Value)}
theorem xc_drawM (pm tm : List Nat) (M : List Blk) {id : Nat} [hm : Mx P] (h1 : pmOf ops = pm) (h2 : tmOf ops = tm) (h3 : Region.noSelect ops = true) (h : XM P W n ops Q M pm tm ops.size 0 L E) : XC P W n (.region id ops true) Q L E := .mk fun a w ha hw =>
  wp_region_noPanic (wp_region_held hm.h (h.run h1 h2 h3 _ (Rep.start _) a _ ha hw.drew))
theorem xc_drawML (pm tm : List Nat) {id : Nat} [hm : Mx P] (h1 : pmOf ops = pm) (h2 : tmOf ops = tm) (h3 : Region.noSelect ops = true) (h : XM P W n ops Q L pm tm ops.size 0 L E) : XC P W n (.region id ops true) Q L E := xc_drawM pm tm L h1 h2 h3 h
theorem xm_first {i : Nat} {oi : Oper} {v : Value} {listed : Array Bool} {a : Act} {w : World} (h1 : pmOf ops = pm) (h2 : tmOf ops = tm) (h3 : Region.noSelect ops = true) (hi : ops[i]? = some oi) (hok : okB tm m i = true) (hr : Rep ops.size listed m)
    (hy : YieldsIf P ops (fun w => Hp W w M) oi v a) (hS : Hp W w M) (h : wpAnyH P .any ops (NoPanic Q) (fun w => Hp W w M) fuel (listed.setIfInBounds i true) (a.put oi.dst v) w) : wpAnyH P .any ops (NoPanic Q) (fun w => Hp W w M) (fuel + 1) listed a w := by
  have hlt := (Array.getElem?_eq_some_iff.1 hi).1
  unfold okB at hok
  split at hok
  · rename_i t ht
    have htt : t = Nat.lor (edgeMask oi) (confMask ops ops.toList.zipIdx oi i) := by
      rw [← h2] at ht
      simp only [tmOf, List.getElem?_map, List.getElem?_zipIdx, Array.getElem?_toList, hi, Option.map_some, Nat.zero_add, Option.some.injEq] at ht
      exact ht.symm
    rw [Bool.and_eq_true, Nat.beq_eq] at hok
    obtain ⟨hok1, hok2⟩ := hok
    have hsub : ∀ k, (edgeMask oi).testBit k = true ∨ (confMask ops ops.toList.zipIdx oi i).testBit k = true → m.testBit k = true := fun k hk => land_sub hok1 (by
      rw [htt]
      show (edgeMask oi ||| confMask ops ops.toList.zipIdx oi i).testBit k = true
      rw [Nat.testBit_or, Bool.or_eq_true]; exact hk)
    refine wpAnyH_first hi (Region.noSelect_spec h3) (fun c a w hq => hq) fuel listed a w (fun j oj hj hne hun hno => ?_) ((ready_iff hr hi).2 ?_) hy hS h
    · have hjl := (Array.getElem?_eq_some_iff.1 hj).1
      rw [hr.bit' hjl] at hun
      cases hap : oi.apart ops oj
      · exfalso
        have hw : waitsFor oj i = false := by
          cases hw : waitsFor oj i
          · rfl
          · unfold waitsFor at hw
            rw [Array.any_eq_true'] at hw
            obtain ⟨e, he, hb⟩ := hw
            simp only [Bool.and_eq_true, beq_iff_eq] at hb
            exact absurd hb.2 (hno e he hb.1)
        have := hsub j (.inr (by
          unfold confMask
          rw [tb_foldl (fun q : Oper × Nat => !(q.2 == i || waitsFor q.1 i || oi.apart ops q.1)) (fun q => q.2)]
          rw [Bool.or_eq_true, List.any_eq_true]
          refine .inr ⟨(oj, j), ?_, ?_⟩
          · rw [List.mem_zipIdx_iff_getElem?]; simpa using hj
          · simp [hap, hw, hne]))
        rw [this] at hun; cases hun
      · rfl
    · rw [Bool.and_eq_true, Nat.beq_eq]
      exact ⟨land_of fun k hk => hsub k (.inl hk), hok2⟩
  · cases hok
theorem xm_take (i : Nat) {d : Option Nat} {op : Op} {t : TypeId} {pos : String} {after : Array Edge} {v : Value} (hi : ops[i]? = some ⟨d, op, t, pos, after, none⟩)
    (hok : okB tm m i = true) (hM : Sb M L) (hv : RD P W n M E ⟨d, op, t, pos, after, none⟩ v) (hd : okd n d = true) (hm : m ||| (1 <<< i) = m') (h : XM P W n ops Q M pm tm fuel m' L (pt E d v)) : XM P W n ops Q M pm tm (fuel + 1) m L E := .mk fun h1 h2 h3 listed hr a w ha hw =>
  xm_first h1 h2 h3 hi hok hr (.inl ⟨rfl, fun w' hw' => hv.run a w' ha hw'⟩) (hM.hp hw) (h.run h1 h2 h3 _ (hm ▸ hr.set (Array.getElem?_eq_some_iff.1 hi).1) _ w (ha.pt d v hd) hw)
theorem xm_gtake (i : Nat) {d : Option Nat} {op : Op} {t : TypeId} {pos : String} {after : Array Edge} {v : Value} {g gt : Nat} {b : Bool} (hi : ops[i]? = some ⟨d, op, t, pos, after, some (g, b)⟩)
    (hok : okB tm m i = true) (hM : Sb M L) (hg : (ops[g]?).bind (·.dst) = some gt) (ht : lk E gt = some (.bool b)) (hv : RD P W n M E ⟨d, op, t, pos, after, some (g, b)⟩ v) (hd : okd n d = true) (hm : m ||| (1 <<< i) = m') (h : XM P W n ops Q M pm tm fuel m' L (pt E d v)) : XM P W n ops Q M pm tm (fuel + 1) m L E := .mk fun h1 h2 h3 listed hr a w ha hw =>
  xm_first h1 h2 h3 hi hok hr (.inl ⟨by simp [Region.wanted, yielded_of (ops := ops) ha hg ht], fun w' hw' => hv.run a w' ha hw'⟩) (hM.hp hw) (h.run h1 h2 h3 _ (hm ▸ hr.set (Array.getElem?_eq_some_iff.1 hi).1) _ w (ha.pt d v hd) hw)
theorem xm_gskip (i : Nat) {d : Option Nat} {op : Op} {t : TypeId} {pos : String} {after : Array Edge} {g gt : Nat} {b c : Bool} (hi : ops[i]? = some ⟨d, op, t, pos, after, some (g, b)⟩)
    (hok : okB tm m i = true) (hM : Sb M L) (hg : (ops[g]?).bind (·.dst) = some gt) (ht : lk E gt = some (.bool c)) (hc : (c == b) = false) (hd : okd n d = true) (hm : m ||| (1 <<< i) = m') (h : XM P W n ops Q M pm tm fuel m' L (pt E d undef)) : XM P W n ops Q M pm tm (fuel + 1) m L E := .mk fun h1 h2 h3 listed hr a w ha hw =>
  xm_first (v := undef) h1 h2 h3 hi hok hr (.inr ⟨by simpa [Region.wanted, yielded_of (ops := ops) ha hg ht] using hc, rfl⟩) (hM.hp hw) (h.run h1 h2 h3 _ (hm ▸ hr.set (Array.getElem?_eq_some_iff.1 hi).1) _ w (ha.pt d undef hd) hw)
theorem yielded_un {a : Act} (ha : Env n a E) {g t : Nat} (hg : (ops[g]?).bind (·.dst) = some t) (ht : lk E t = some undef) : yielded ops a.tmps g = none := by
  unfold yielded
  rw [hg]
  simp only [Option.bind_some]
  rw [ha.val t _ ht]
  rfl
/-- The guard itself was left out. -/
theorem xm_gskipU (i : Nat) {d : Option Nat} {op : Op} {t : TypeId} {pos : String} {after : Array Edge} {g gt : Nat} {b : Bool} (hi : ops[i]? = some ⟨d, op, t, pos, after, some (g, b)⟩)
    (hok : okB tm m i = true) (hM : Sb M L) (hg : (ops[g]?).bind (·.dst) = some gt) (ht : lk E gt = some undef) (hd : okd n d = true) (hm : m ||| (1 <<< i) = m') (h : XM P W n ops Q M pm tm fuel m' L (pt E d undef)) : XM P W n ops Q M pm tm (fuel + 1) m L E := .mk fun h1 h2 h3 listed hr a w ha hw =>
  xm_first (v := undef) h1 h2 h3 hi hok hr (.inr ⟨by simp [Region.wanted, yielded_un (ops := ops) ha hg ht], rfl⟩) (hM.hp hw) (h.run h1 h2 h3 _ (hm ▸ hr.set (Array.getElem?_eq_some_iff.1 hi).1) _ w (ha.pt d undef hd) hw)
theorem xo_gskipU {rest : List Oper} {d : Option Nat} {op : Op} {t : TypeId} {pos : String} {after : Array Edge} {g gt : Nat} {b : Bool}
    (hg : (ops[g]?).bind (·.dst) = some gt) (ht : lk E gt = some undef) (hd : okd n d = true)
    (h : XO P W n ops Q rest L (pt E d undef)) : XO P W n ops Q (⟨d, op, t, pos, after, some (g, b)⟩ :: rest) L E := by
  refine ⟨fun a w ha hw => ?_⟩
  unfold wpList
  have hy := yielded_un (ops := ops) ha hg ht
  rw [if_neg (by simp [Region.wanted, hy])]
  exact h.run _ _ (ha.pt d undef hd) hw
theorem ready_one {listed : Array Bool} {i : Nat} (h1 : pmOf ops = pm) (hr : Rep ops.size listed m) (hi : readyM pm.zipIdx m = [i]) {j : Nat} (hj : j ∈ Region.ready .any ops listed) : j = i := by
  rw [ready_readyM hr, h1, hi] at hj
  simpa using hj
theorem ready_ne {listed : Array Bool} {i : Nat} (h1 : pmOf ops = pm) (hr : Rep ops.size listed m) (hi : readyM pm.zipIdx m = [i]) : Region.ready .any ops listed ≠ [] := fun h => by
  have : i ∈ Region.ready .any ops listed := by rw [ready_readyM hr, h1, hi]; simp
  rw [h] at this; cases this
theorem xm_one (i : Nat) {d : Option Nat} {op : Op} {t : TypeId} {pos : String} {after : Array Edge} (hi : ops[i]? = some ⟨d, op, t, pos, after, none⟩)
    (hr : readyM pm.zipIdx m = [i]) (hd : okd n d = true) (hm : m ||| (1 <<< i) = m')
    (hv : EF P W n L E ⟨d, op, t, pos, after, none⟩ (fun v L' => Sb M L' ∧ XM P W n ops Q M pm tm fuel m' L' (pt E d v))) : XM P W n ops Q M pm tm (fuel + 1) m L E := .mk fun h1 h2 h3 listed hrp a w ha hw => by
  refine ⟨fun h => absurd h (ready_ne h1 hrp hr), fun j hj => ?_⟩
  obtain rfl := ready_one h1 hrp hr hj
  unfold wpOp
  simp only [hi, Region.wanted, if_true]
  refine .inl ?_
  unfold Oper.wp
  exact effUp.upon (hv.run a w ha hw) fun v w' ⟨L', h5, h6, h7⟩ => ⟨h6.hp h5, h7.run h1 h2 h3 _ (hm ▸ hrp.set (Array.getElem?_eq_some_iff.1 hi).1) _ _ (ha.pt d v hd) h5⟩
theorem xm_step {i : Nat} {d : Option Nat} {op : Op} {t : TypeId} {pos : String} {after : Array Edge} {listed : Array Bool} (h1 : pmOf ops = pm) (h2 : tmOf ops = tm) (h3 : Region.noSelect ops = true) (hi : ops[i]? = some ⟨d, op, t, pos, after, none⟩) (hd : okd n d = true) (hm : m ||| (1 <<< i) = m') (hrp : Rep ops.size listed m)
    (hv : EF P W n L E ⟨d, op, t, pos, after, none⟩ (fun v L' => Sb M L' ∧ XM P W n ops Q M pm tm fuel m' L' (pt E d v))) {a : Act} {w : World} (ha : Env n a E) (hw : Hp W w L) :
    wpOp P ops (NoPanic Q) i (fun a' w' => Hp W w' M ∧ wpAnyH P .any ops (NoPanic Q) (fun w => Hp W w M) fuel (listed.setIfInBounds i true) a' w') a w := by
  unfold wpOp
  simp only [hi, Region.wanted, if_true]
  refine .inl ?_
  unfold Oper.wp
  exact effUp.upon (hv.run a w ha hw) fun v w' ⟨L', h5, h6, h7⟩ => ⟨h6.hp h5, h7.run h1 h2 h3 _ (hm ▸ hrp.set (Array.getElem?_eq_some_iff.1 hi).1) _ _ (ha.pt d v hd) h5⟩
/-- Two that come up together: both orders. -/
theorem xm_two (i k : Nat) {mi mk : Nat} {d d2 : Option Nat} {op op2 : Op} {t t2 : TypeId} {pos pos2 : String} {after after2 : Array Edge} (hi : ops[i]? = some ⟨d, op, t, pos, after, none⟩) (hk : ops[k]? = some ⟨d2, op2, t2, pos2, after2, none⟩)
    (hr : readyM pm.zipIdx m = [i, k]) (hd : okd n d = true) (hd2 : okd n d2 = true) (hmi : m ||| (1 <<< i) = mi) (hmk : m ||| (1 <<< k) = mk)
    (hv : EF P W n L E ⟨d, op, t, pos, after, none⟩ (fun v L' => Sb M L' ∧ XM P W n ops Q M pm tm fuel mi L' (pt E d v)))
    (hv2 : EF P W n L E ⟨d2, op2, t2, pos2, after2, none⟩ (fun v L' => Sb M L' ∧ XM P W n ops Q M pm tm fuel mk L' (pt E d2 v))) : XM P W n ops Q M pm tm (fuel + 1) m L E := .mk fun h1 h2 h3 listed hrp a w ha hw => by
  have hmem : ∀ j, j ∈ Region.ready .any ops listed ↔ j = i ∨ j = k := fun j => by
    rw [ready_readyM hrp, h1, hr]; simp
  refine ⟨fun h => ?_, fun j hj => ?_⟩
  · have := (hmem i).2 (.inl rfl)
    rw [h] at this; cases this
  · rcases (hmem j).1 hj with rfl | rfl
    · exact xm_step h1 h2 h3 hi hd hmi hrp hv ha hw
    · exact xm_step h1 h2 h3 hk hd2 hmk hrp hv2 ha hw
theorem xm_gone (i : Nat) {d : Option Nat} {op : Op} {t : TypeId} {pos : String} {after : Array Edge} {g gt : Nat} {b : Bool} (hi : ops[i]? = some ⟨d, op, t, pos, after, some (g, b)⟩)
    (hr : readyM pm.zipIdx m = [i]) (hd : okd n d = true) (hg : (ops[g]?).bind (·.dst) = some gt) (ht : lk E gt = some (.bool b)) (hm : m ||| (1 <<< i) = m')
    (hv : EF P W n L E ⟨d, op, t, pos, after, some (g, b)⟩ (fun v L' => Sb M L' ∧ XM P W n ops Q M pm tm fuel m' L' (pt E d v))) : XM P W n ops Q M pm tm (fuel + 1) m L E := .mk fun h1 h2 h3 listed hrp a w ha hw => by
  refine ⟨fun h => absurd h (ready_ne h1 hrp hr), fun j hj => ?_⟩
  obtain rfl := ready_one h1 hrp hr hj
  unfold wpOp
  simp only [hi, Region.wanted, yielded_of (ops := ops) ha hg ht, beq_self_eq_true, if_true]
  refine .inl ?_
  unfold Oper.wp
  exact effUp.upon (hv.run a w ha hw) fun v w' ⟨L', h5, h6, h7⟩ => ⟨h6.hp h5, h7.run h1 h2 h3 _ (hm ▸ hrp.set (Array.getElem?_eq_some_iff.1 hi).1) _ _ (ha.pt d v hd) h5⟩
theorem xm_done (hr : readyM pm.zipIdx m = []) (h : XQ W n Q .normal L E) : XM P W n ops Q M pm tm fuel m L E := .mk fun h1 h2 h3 listed hrp a w ha hw =>
  wpAnyH_done (Q := NoPanic Q) (by
    cases h9 : Region.ready .any ops listed with
    | nil => rfl
    | cons j r =>
      have : j ∈ Region.ready .any ops listed := by rw [h9]; simp
      rw [ready_readyM hrp, h1, hr] at this
      cases this) (h.run a w ha hw) fuel
theorem xm_keep {E' : List (Nat × Value)} (h : XM P W n ops Q M pm tm fuel m L E') (hk : ∀ i v, lk E' i = some v → lk E i = some v) : XM P W n ops Q M pm tm fuel m L E := .mk fun h1 h2 h3 listed hrp a w ha hw => h.run h1 h2 h3 listed hrp a w (ha.keep hk) hw
theorem xm_split (t : Nat) {b : Bool} (ht : lk E t = some (.bool b)) (h1 : b = true → XM P W n ops Q M pm tm fuel m L ((t, .bool true) :: E)) (h2 : b = false → XM P W n ops Q M pm tm fuel m L ((t, .bool false) :: E)) : XM P W n ops Q M pm tm fuel m L E := by
  have hk : ∀ c, b = c → ∀ i v, lk ((t, .bool c) :: E) i = some v → lk E i = some v := fun c hc => keep_cons (by rw [ht, hc]) (fun _ _ h => h)
  cases hb : b
  · exact xm_keep (h2 hb) (hk _ hb)
  · exact xm_keep (h1 hb) (hk _ hb)
theorem xm_dec (t : Nat) {p : Prop} [hd : Decidable p] (ht : lk E t = some (.bool (decide p))) (h1 : p → XM P W n ops Q M pm tm fuel m L ((t, .bool true) :: E)) (h2 : ¬p → XM P W n ops Q M pm tm fuel m L ((t, .bool false) :: E)) : XM P W n ops Q M pm tm fuel m L E :=
  xm_split t ht (fun h => h1 (of_decide_eq_true h)) (fun h => h2 (of_decide_eq_false h))
theorem xm_ndec (t : Nat) {p : Prop} [hd : Decidable p] (ht : lk E t = some (.bool (!decide p))) (h1 : ¬p → XM P W n ops Q M pm tm fuel m L ((t, .bool true) :: E)) (h2 : p → XM P W n ops Q M pm tm fuel m L ((t, .bool false) :: E)) : XM P W n ops Q M pm tm fuel m L E :=
  xm_split t ht (fun h => h1 (by simpa using h)) (fun h => h2 (by simpa using h))
theorem xm_perm {L' : List Blk} (hp : L.Perm L') (h : XM P W n ops Q M pm tm fuel m L' E) : XM P W n ops Q M pm tm fuel m L E := .mk fun h1 h2 h3 listed hrp a w ha hw => h.run h1 h2 h3 listed hrp a w ha (hw.perm hp)
theorem xmx_perm {L' : List Blk} (hp : L.Perm L') (h : Sb M L' ∧ XM P W n ops Q M pm tm fuel m L' E) : Sb M L ∧ XM P W n ops Q M pm tm fuel m L E := ⟨h.1.perm hp, xm_perm hp h.2⟩
theorem xmx_mid (A : List Blk) {p : Blk} {R : List Blk} (h : Sb M (A ++ p :: R) ∧ XM P W n ops Q M pm tm fuel m (A ++ p :: R) E) : Sb M (p :: (A ++ R)) ∧ XM P W n ops Q M pm tm fuel m (p :: (A ++ R)) E := xmx_perm List.perm_middle.symm h
theorem xmx_seg (A S R : List Blk) (h : Sb M (A ++ (S ++ R)) ∧ XM P W n ops Q M pm tm fuel m (A ++ (S ++ R)) E) : Sb M (S ++ (A ++ R)) ∧ XM P W n ops Q M pm tm fuel m (S ++ (A ++ R)) E := xmx_perm (seg_perm A S R).symm h
end
end Go.Proofs.Ytoolgphkfnkajaa.X
