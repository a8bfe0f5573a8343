/-
  Texts of my own, put together: walks and laws for this seat. No condition.
-/
import Derived.Test.YtpheiklhjelkcaaZ3
import Derived.Test.YtpheiklhjelkcaaZ2
/-
  Chapter 19: what a queue does, in plain words: no program in sight, no condition.
-/
namespace Go.Proofs.Ytpheiklhjelkcaa.X
open Go Go.RowKit
set_option linter.unusedVariables false
set_option linter.unusedSimpArgs false
/-- The first place of which something stands; behind all, if there is none. -/
def first (p : Nat → Bool) (n : Nat) : Nat := (List.range n).findIdx p
theorem first_hit {p : Nat → Bool} {n k : Nat} (hk : k < n) (hp : p k = true) (h : ∀ j, j < k → p j = false) : first p n = k := by
  unfold first
  rw [List.findIdx_eq (by rw [List.length_range]; exact hk)]
  refine ⟨by rw [List.getElem_range]; exact hp, fun j hj => ?_⟩
  rw [List.getElem_range]; exact h j hj
theorem first_miss {p : Nat → Bool} {n : Nat} (h : ∀ j, j < n → p j = false) : first p n = n := by
  unfold first
  have := List.findIdx_eq_length (p := p) (xs := List.range n)
  rw [List.length_range] at this
  rw [this]
  intro x hx
  rw [h x (List.mem_range.1 hx)]
theorem first_le (p : Nat → Bool) (n : Nat) : first p n ≤ n := by
  unfold first
  have := List.findIdx_le_length (p := p) (xs := List.range n)
  rwa [List.length_range] at this
theorem first_spec {p : Nat → Bool} {n : Nat} (h : first p n < n) : p (first p n) = true := by
  unfold first at *
  have := List.findIdx_getElem (p := p) (xs := List.range n) (w := by rw [List.length_range]; exact h)
  rwa [List.getElem_range] at this
theorem first_not {p : Nat → Bool} {n j : Nat} (h : j < first p n) : p j = false := by
  have h' := h
  have hn : j < n := Nat.lt_of_lt_of_le h (first_le p n)
  unfold first at h
  have := List.not_of_lt_findIdx h
  rw [List.getElem_range] at this
  simpa using this
/-- The last place of which something stands; -1, if there is none. -/
def lastI (p : Nat → Bool) : Nat → Int
  | 0 => -1
  | n + 1 => if p n = true then (n : Int) else lastI p n
theorem lastI_lt (p : Nat → Bool) : ∀ n : Nat, -1 ≤ lastI p n ∧ lastI p n < n
  | 0 => by simp [lastI]
  | n + 1 => by
    have := lastI_lt p n
    unfold lastI
    split <;> omega
theorem lastI_skip {p : Nat → Bool} {k : Nat} : ∀ {n : Nat}, k ≤ n → (∀ j, k ≤ j → j < n → p j = false) → lastI p n = lastI p k
  | 0, hk, h => by have : k = 0 := by omega
                   rw [this]
  | n + 1, hk, h => by
    by_cases e : k = n + 1
    · rw [e]
    · rw [lastI, if_neg (by rw [h n (by omega) (by omega)]; decide)]
      exact lastI_skip (by omega) fun j h1 h2 => h j h1 (by omega)
theorem lastI_spec {p : Nat → Bool} : ∀ {n : Nat}, 0 ≤ lastI p n → p (lastI p n).toNat = true
  | 0, h => by simp [lastI] at h
  | n + 1, h => by
    unfold lastI at *
    split at h
    · rename_i hp; rw [if_pos hp]; exact hp
    · rename_i hp; rw [if_neg hp]; exact lastI_spec h
def zIf : If9 := ⟨0, 0, false, 0, false, 0, 0, false, false⟩
def zFa : Fa := ⟨zIf, false, []⟩
def Ea.note (e : Ea) : Ea := ⟨e.g, e.s, true, true, e.f.i.ti, e.f.i.dr, zFa⟩
def Ea.joins (e x : Ea) : Bool := e.lo && x.lo && decide (e.g = x.g) && decide (e.s = x.s)
def Ea.joined (e x : Ea) : Ea := match e.kn && x.kn with
  | true => ⟨e.g, e.s, true, true, if x.ti < e.ti then x.ti else e.ti, e.dr && x.dr, zFa⟩
  | false => ⟨e.g, e.s, true, false, 0, false, zFa⟩
def freshA (l : List Ea) (bg : Bool) (i : Nat) : Bool := match l[i]? with
  | some e => !e.lo && (decide (0 < i) || !bg)
  | none => false
def latS (b : Int) (e : Ea) : Int := match e.lo with
  | true => b
  | false => if e.g > b then e.g else b
def latA (l : List Ea) : Int := l.foldl latS 0
def keyA (ca bg : Bool) (l : List Ea) (i : Nat) : Bool := ca && freshA l bg i && match l[i]? with
  | some e => e.f.k && decide (e.g = latA l)
  | none => false
def keptA (ca bg : Bool) (l : List Ea) : Nat := first (keyA ca bg l) l.length
def vicA (k : Nat) (bg : Bool) (l : List Ea) : Int :=
  let a := first (fun i => decide (i < k) && freshA l bg i) l.length
  if a < l.length then (a : Int) else lastI (fun i => decide (k < i) && freshA l bg i) l.length
def victimA (ca bg : Bool) (l : List Ea) : Int := vicA (keptA ca bg l) bg l
def framesA (l : List Ea) : Nat := l.countP fun e => !e.lo
def stepS (l : List Ea) (i : Nat) : List Ea := match l[i - 1]?, l[i]? with
  | some a, some b => if a.joins b = true then (l.set (i - 1) (a.joined b)).eraseIdx i else l
  | _, _ => l
def setl (m : Nat) : Nat → List Ea → List Ea
  | 0, l => l
  | i + 1, l => if m ≤ i + 1 then setl m i (stepS l (i + 1)) else l
def settleA (l : List Ea) (k : Nat) : List Ea := setl (max k 1) (min (k + 1) (l.length - 1)) l
def putV (most : Int) (ca bg : Bool) (l : List Ea) : List Ea × Nat :=
  if (framesA l : Int) ≤ most then (l, 0) else
    if victimA ca bg l < 0 then (l, 0) else
      match l[(victimA ca bg l).toNat]? with
      | some e => (settleA (l.set (victimA ca bg l).toNat e.note) (victimA ca bg l).toNat, 1)
      | none => (l, 0)
def putA (most : Int) (ca bg : Bool) (l : List Ea) (e : Ea) : List Ea × Nat := putV most ca bg (settleA (l ++ [e]) l.length)
def hasA (l : List Ea) (bg : Bool) (g : Int) (key : Bool) (i : Nat) : Bool := freshA l bg i && match l[i]? with
  | some e => decide (e.g = g) && (!key || e.f.k)
  | none => false
theorem stepS_len (l : List Ea) (i : Nat) : (stepS l i).length ≤ l.length := by
  unfold stepS
  split
  · split
    · rw [List.length_eraseIdx]; split <;> simp
    · exact Nat.le_refl _
  · exact Nat.le_refl _
theorem setl_len (m : Nat) : ∀ (i : Nat) (l : List Ea), (setl m i l).length ≤ l.length
  | 0, l => Nat.le_refl _
  | i + 1, l => by
    unfold setl
    split
    · exact Nat.le_trans (setl_len m i _) (stepS_len l _)
    · exact Nat.le_refl _
theorem settleA_len (l : List Ea) (k : Nat) : (settleA l k).length ≤ l.length := setl_len _ _ _
theorem latS_ge (b : Int) (e : Ea) : b ≤ latS b e := by
  unfold latS; split
  · omega
  · split <;> omega
theorem latA_snoc (l : List Ea) (e : Ea) : latA (l ++ [e]) = latS (latA l) e := by unfold latA; rw [List.foldl_append]; rfl
theorem latA_take (l : List Ea) (k : Nat) (h : k < l.length) : latA (l.take (k + 1)) = latS (latA (l.take k)) l[k] := by
  rw [List.take_add_one, List.getElem?_eq_getElem h]; exact latA_snoc _ _
theorem framesA_take (l : List Ea) (k : Nat) (h : k < l.length) : framesA (l.take (k + 1)) = framesA (l.take k) + (if l[k].lo = true then 0 else 1) := by
  unfold framesA
  rw [List.take_add_one, List.getElem?_eq_getElem h, List.countP_append]
  congr 1
  simp only [Option.toList_some, List.countP_cons, List.countP_nil]
  cases l[k].lo <;> rfl
theorem framesA_le (l : List Ea) : framesA l ≤ l.length := List.countP_le_length
end Go.Proofs.Ytpheiklhjelkcaa.X
/-
  Words of my own for walks, twenty-eighth part: cells of an owned row that begins anywhere, written. No condition; generic over the program.
-/
namespace Go.Proofs.Ytpheiklhjelkcaa.X
open Go Go.RowKit
set_option linter.unusedVariables false
set_option linter.unusedSimpArgs false
/-- Cells in a row of an own block. -/
theorem cl_sub {W : World} {L : List Blk} {b : Nat} {T : TypeId} {fr : Nat × Nat} {vs sub : List Value} (i : Nat) (h : (b, Obj.cells vs.toArray T fr) ∈ L) (hs : (vs.drop i).take sub.length = sub) : ∀ (j : Nat) (u : Value), sub[j]? = some u → Cl W L b (i + j) u := fun j u hj => by
  refine Cl.own h ?_
  rw [← hs, List.getElem?_take] at hj
  split at hj
  · rw [List.getElem?_drop] at hj
    simpa using hj
  · cases hj
section
variable {P : Program} {W : World} {n : Nat} {L : List Blk} {E : List (Nat × Value)} {Q : Exit → Act → World → Prop} {d : Option Nat} {t : TypeId} {pos : String} {after : Array Edge} {g : Option (Nat × Bool)} {K : Value → List Blk → Prop}
/-- Some cells of an owned row are written, from one of them on. -/
theorem ef_storeQs (A R : List Blk) (j : Nat) {T m s b o c cap : Nat} {x y : Operand} {vs xs : List Value} {k : Nat} {e : TypeId} {l : List Blk} {p : Option Addr} [hS : Ts P T s] (hO : SlQ m e (.slice p k cap) k xs l) (hx : ev E x = some (.pointer (some ⟨b, c, none⟩))) (hc : c = o + j) (hb : p = some ⟨b, o, none⟩) (hy : ev E y = some (.agg vs.toArray))
    (hv1 : vs.all (·.oneCell') = true) (hvs : vs.length = s) (hj : j + s ≤ k * m)
    (hL : L = A ++ (l ++ R)) (hK : ∀ l', SlQ m e (.slice p k cap) k (xs.take j ++ vs ++ xs.drop (j + s)) l' → K undef (A ++ (l' ++ R))) : EF P W n L E ⟨d, .store T x y, t, pos, after, g⟩ K := by
  have hxl := hO.len
  subst hc
  rcases hO with ⟨h1, h2, rfl, rfl⟩ | ⟨b', o', cs, cap', h1, rfl, h3, h4, h5⟩
  · subst hb
    simp only [Value.slice.injEq] at h1
    obtain ⟨h1, _⟩ := h1
    cases h1
  · subst hb
    simp only [Value.slice.injEq, Option.some.injEq, Addr.mk.injEq, true_and, and_true] at h1
    obtain ⟨⟨rfl, rfl⟩, rfl⟩ := h1
    have e2 : k * m ≤ cap * m := Nat.mul_le_mul_right _ h3
    refine ef_storeN A R hx hy hv1 hvs (by rw [hL]; rfl) (by omega) (hK [_] (.inr ⟨b, o, _, cap, rfl, rfl, h3, ?_, ?_⟩))
    · simp only [List.size_toArray, List.length_append, List.length_take, List.length_drop, Array.length_toList]
      omega
    · have hl : (cs.toList.take o).length = o := by rw [List.length_take, Array.length_toList]; omega
      have ex : cs.toList.drop o = xs ++ cs.toList.drop (o + k * m) := by
        rw [← h5, ← List.drop_drop, List.take_append_drop]
      have ea : cs.toList.take (o + j) = cs.toList.take o ++ xs.take j := by
        rw [List.take_add, ex, List.take_append_of_le_length (by omega)]
      have eb : cs.toList.drop (o + j + vs.length) = xs.drop (j + s) ++ cs.toList.drop (o + k * m) := by
        rw [hvs, Nat.add_assoc, ← List.drop_drop, ex, List.drop_append_of_le_length (by omega)]
      simp only []
      rw [ea, eb]
      simp only [List.append_assoc]
      rw [List.drop_left' hl]
      have : (xs.take j ++ (vs ++ xs.drop (j + s))).length = k * m := by
        simp only [List.length_append, List.length_take, List.length_drop, hxl]; omega
      rw [← List.append_assoc vs, ← List.append_assoc, List.take_left' this]
/-- One cell of an owned row is written. -/
theorem ef_storeQ1 (A R : List Blk) (j : Nat) {T m b o c cap : Nat} {x y : Operand} {v : Value} {xs : List Value} {k : Nat} {e : TypeId} {l : List Blk} {p : Option Addr} [hS : Ts P T 1] (hO : SlQ m e (.slice p k cap) k xs l) (hx : ev E x = some (.pointer (some ⟨b, c, none⟩))) (hc : c = o + j) (hb : p = some ⟨b, o, none⟩) (hy : ev E y = some v)
    (hv1 : v.oneCell' = true) (hj : j < k * m)
    (hL : L = A ++ (l ++ R)) (hK : ∀ l', SlQ m e (.slice p k cap) k (xs.set j v) l' → K undef (A ++ (l' ++ R))) : EF P W n L E ⟨d, .store T x y, t, pos, after, g⟩ K := by
  have hxl := hO.len
  subst hc
  rcases hO with ⟨h1, h2, rfl, rfl⟩ | ⟨b', o', cs, cap', h1, rfl, h3, h4, h5⟩
  · subst hb
    simp only [Value.slice.injEq] at h1
    obtain ⟨h1, _⟩ := h1
    cases h1
  · subst hb
    simp only [Value.slice.injEq, Option.some.injEq, Addr.mk.injEq, true_and, and_true] at h1
    obtain ⟨⟨rfl, rfl⟩, rfl⟩ := h1
    have e2 : k * m ≤ cap * m := Nat.mul_le_mul_right _ h3
    have hlt : o + j < cs.toList.length := by rw [Array.length_toList]; omega
    refine ef_store1 A R (vs := cs.toList) hx hy hv1 rfl (by rw [hL]; rfl) (List.getElem?_eq_getElem hlt) (hK [_] (.inr ⟨b, o, _, cap, rfl, rfl, h3, ?_, ?_⟩))
    · simp only [List.size_toArray, List.length_set, Array.length_toList]; exact h4
    · simp only []
      rw [← h5, List.drop_set, if_neg (by omega), List.take_set]
      congr 1; omega
/-- A few cells of a block are written; what then stands there is named. -/
theorem ef_storeW (A R : List Blk) (i : Nat) {T T' m b : Nat} {x y : Operand} {vs cs ws : List Value} [hS : Ts P T m] (hx : ev E x = some (.pointer (some ⟨b, i, none⟩))) (hy : ev E y = some (.agg vs.toArray)) (h1a : vs.all (·.oneCell') = true) (hm : vs.length = m)
    (hL : L = A ++ (b, .cells cs.toArray T' (0, 0)) :: R) (hi : i + m ≤ cs.length) (hw : cs.take i ++ vs ++ cs.drop (i + vs.length) = ws) (hk : K undef (A ++ (b, .cells ws.toArray T' (0, 0)) :: R)) : EF P W n L E ⟨d, .store T x y, t, pos, after, g⟩ K :=
  ef_storeN A R hx hy h1a hm hL (by simpa using hi) (by subst hw; simpa using hk)
theorem SlQ.pre {s : Nat} {e : TypeId} {p : Option Addr} {m c : Nat} {xs : List Value} {l : List Blk} (h : SlQ s e (.slice p m c) m xs l) (k : Nat) (hk : k ≤ m) : SlQ s e (.slice p k c) k (xs.take (k * s)) l := by
  rcases h with ⟨h1, rfl, rfl, rfl⟩ | ⟨b, o, cs, cap, h1, rfl, h3, h4, h5⟩
  · simp only [Value.slice.injEq] at h1
    obtain ⟨rfl, _, rfl⟩ := h1
    have : k = 0 := by omega
    subst this
    exact .inl ⟨rfl, rfl, by simp, rfl⟩
  · simp only [Value.slice.injEq, true_and] at h1
    obtain ⟨rfl, rfl⟩ := h1
    refine .inr ⟨b, o, cs, c, rfl, rfl, by omega, h4, ?_⟩
    rw [← h5, List.take_take, Nat.min_eq_left (Nat.mul_le_mul_right _ hk)]
/-- append, where there is room. -/
theorem ef_appendRoomQ (A R l : List Blk) {T e s bt : Nat} {z : Value} {x y : Operand} {m k c cap b o : Nat} {p : Option Addr} {xs news : List Value} [hT : Sl P T e] [hI : Inf P e z s bt]
    (hx : ev E x = some (.slice (some ⟨b, o, none⟩) m cap)) (hy : ev E y = some (.slice p k c)) (hO : SlQ s e (.slice (some ⟨b, o, none⟩) m cap) m xs l) (hL : L = A ++ (l ++ R)) (hsrc : Rs W L p news) (hk : news.length = k * s) (h1a : news.all (·.oneCell') = true) (hs : 0 < s)
    (hroom : m + k ≤ cap) (hK : ∀ l', SlQ s e (.slice (some ⟨b, o, none⟩) (m + k) cap) (m + k) (xs ++ news) l' → K (.slice (some ⟨b, o, none⟩) (m + k) cap) (A ++ (l' ++ R))) :
    EF P W n L E ⟨d, .call ⟨.builtin .append, #[x, y], #[T, T]⟩, t, pos, after, g⟩ K := by
  have hxl := hO.len
  rcases hO with ⟨h0, _⟩ | ⟨b', o', cs, cap', h0, rfl, hmc, hcs, htk⟩
  · cases h0
  simp only [Value.slice.injEq, Option.some.injEq, Addr.mk.injEq, true_and, and_true] at h0
  obtain ⟨⟨rfl, rfl⟩, rfl⟩ := h0
  have h1 : ∀ u ∈ news, u.oneCell' = true := List.all_eq_true.1 h1a
  refine ⟨fun a w ha hw => ?_⟩
  have hrun : (execOp a.eval ⟨d, .call ⟨.builtin .append, #[x, y], #[T, T]⟩, t, pos, after, g⟩).run P w = ((Builtin.append_ #[T, T] t #[.slice (some ⟨b, o, none⟩) m cap, .slice p k c]).run P w).andThen fun v w => .ok (.value v) w := by
    simp [execOp, resolve, invoke, builtin, ha.eval hx, ha.eval hy]
  rw [hrun]
  obtain ⟨i, hi1, hi2, hi3, hi4, hzz⟩ := hI.h
  subst hi3; subst hi4
  by_cases hk0 : k = 0
  · subst hk0
    have hn : news = [] := List.eq_nil_of_length_eq_zero (by simpa using hk)
    subst hn
    rw [run_append_zero (some ⟨b, o, none⟩) p m cap c w hmc]
    refine ⟨_, hw, ?_⟩
    rw [hL]
    exact hK _ (.inr ⟨b, o, cs, cap, rfl, rfl, hmc, hcs, by simpa using htk⟩)
  · have hpos : 0 < news.length := by rw [hk]; exact Nat.mul_pos (by omega) hs
    obtain ⟨b0, o0, hp, _⟩ := hsrc 0 _ (List.getElem?_eq_getElem hpos)
    subst hp
    have hnews : ∀ j u, news[j]? = some u → w.cell? ((⟨b0, o0, none⟩ : Addr).add j) = some u := fun j u hj => by
      obtain ⟨b', o', hbo, hc⟩ := hsrc j u hj
      simp only [Option.some.injEq, Addr.mk.injEq] at hbo
      obtain ⟨rfl, rfl, _⟩ := hbo
      rw [add_zero']; exact hc.get hw
    have hw2 := hw
    rw [hL] at hw2
    have hmk : (m + k) * i.size ≤ cap * i.size := Nat.mul_le_mul_right _ hroom
    rw [Nat.add_mul] at hmk
    have hfit' : o + m * i.size + news.length ≤ cs.size := by rw [hk]; omega
    have hr := run_append_roomAt (P := P) w T t e i hT.h hi1 b o m cap cs hw2.mid ⟨b0, o0, none⟩ k c news hk hnews h1 hroom hfit'
    rw [hr]
    refine ⟨_, hw2.turnAt rfl rfl rfl (setRow_heap w b cs _ e (0, 0) hw2.mid) (fun q hq => setRow_other w b q _ hq), hK [(b, .cells (cs.toList.take (o + m * i.size) ++ news ++ cs.toList.drop (o + m * i.size + news.length)).toArray e (0, 0))] (.inr ⟨b, o, _, cap, rfl, rfl, hroom, ?_, ?_⟩)⟩
    · simp only [List.size_toArray, List.length_append, List.length_take, List.length_drop, Array.length_toList]
      omega
    · rw [Nat.add_mul, ← hk]
      exact take_mid _ _ _ _ _ htk hxl (by rw [Array.length_toList]; omega)
/-- What lies behind an owned row is cleared. -/
theorem ef_clearQ (A R l : List Blk) {T e s bt : Nat} {z : Value} {x : Operand} {m k cap b o : Nat} {xs : List Value} [hT : Sl P T e] [hI : Inf P e z s bt]
    (hO : SlQ s e (.slice (some ⟨b, o, none⟩) k cap) k xs l) (hx : ev E x = some (.slice (slp (some ⟨b, o, none⟩) cap k s) m (cap - k))) (hL : L = A ++ (l ++ R)) (hm : 0 < m) (hfit : k + m ≤ cap) (hz1 : z.cells.all (·.oneCell') = true)
    (hK : ∀ l', SlQ s e (.slice (some ⟨b, o, none⟩) k cap) k xs l' → K (.tuple #[]) (A ++ (l' ++ R))) : EF P W n L E ⟨d, .call ⟨.builtin .clear, #[x], #[T]⟩, t, pos, after, g⟩ K := by
  rcases hO with ⟨h0, _⟩ | ⟨b', o', cs, cap', h0, rfl, hmc, hcs, htk⟩
  · cases h0
  simp only [Value.slice.injEq, Option.some.injEq, Addr.mk.injEq, true_and, and_true] at h0
  obtain ⟨⟨rfl, rfl⟩, rfl⟩ := h0
  have hsp : slp (some ⟨b, o, none⟩) cap k s = some ⟨b, o + k * s, none⟩ := by
    unfold slp; rw [if_neg (by omega), Option.map_some, add_zero']
  rw [hsp] at hx
  have e2 : (k + m) * s ≤ cap * s := Nat.mul_le_mul_right _ hfit
  rw [Nat.add_mul] at e2
  refine ef_clear A R (s := s) hx (by rw [hL]; rfl) hm (by omega) hz1 fun cs' hc1 hc2 => hK [_] (.inr ⟨b, o, cs', cap, rfl, rfl, hmc, by omega, ?_⟩)
  have e3 : (cs'.toList.drop o).take (k * s) = ((cs'.toList.take (o + k * s)).drop o) := by
    rw [List.drop_take, Nat.add_sub_cancel_left]
  have e4 : (cs.toList.drop o).take (k * s) = ((cs.toList.take (o + k * s)).drop o) := by
    rw [List.drop_take, Nat.add_sub_cancel_left]
  rw [e3, hc2, ← e4, htk]
/-- append, its answer opened. -/
theorem ef_appendQS (A R l : List Blk) {T e s bt : Nat} {z : Value} {x y : Operand} {v : Value} {m k c : Nat} {p : Option Addr} {xs news : List Value} [hT : Sl P T e] [hI : Inf P e z s bt]
    (hx : ev E x = some v) (hy : ev E y = some (.slice p k c)) (hO : SlQ s e v m xs l) (hL : L = A ++ (l ++ R)) (hsrc : Rs W L p news) (hk : news.length = k * s) (h1a : news.all (·.oneCell') = true) (hs : 0 < s)
    (hfit : (m + k) * bt ≤ 140737488355328) (hsm : m + k ≤ 9223372036854775807) (hK : ∀ s' k' l', SlQ s e (.slice s' (m + k) k') (m + k) (xs ++ news) l' → m + k ≤ k' → K (.slice s' (m + k) k') (A ++ (l' ++ R))) :
    EF P W n L E ⟨d, .call ⟨.builtin .append, #[x, y], #[T, T]⟩, t, pos, after, g⟩ K :=
  ef_appendQ A R l hx hy hO hL hsrc hk h1a hs hfit hsm fun v' l' h => by
    obtain ⟨s', k', rfl, h', hc⟩ := h.opn
    exact hK s' k' l' h' hc
end
end Go.Proofs.Ytpheiklhjelkcaa.X
/-
  Words of my own for walks, twentieth part: four effects that come up together. No condition; generic over the program.
-/
namespace Go.Proofs.Ytpheiklhjelkcaa.X
open Go Go.RowKit
set_option linter.unusedVariables false
set_option linter.unusedSimpArgs false
section
variable {P : Program} {W : World} {n : Nat} {ops : Array Oper} {Q : Exit → Go.Act → World → Prop} {M L : List Blk} {pm tm : List Nat} {fuel m : Nat} {E : List (Nat × Value)}
theorem xm_four (i k l q : Nat) {mi mk ml mq : Nat} {d d2 d3 d4 : Option Nat} {op op2 op3 op4 : Op} {t t2 t3 t4 : TypeId} {pos pos2 pos3 pos4 : String} {after after2 after3 after4 : Array Edge} (hi : ops[i]? = some ⟨d, op, t, pos, after, none⟩) (hk : ops[k]? = some ⟨d2, op2, t2, pos2, after2, none⟩) (hl : ops[l]? = some ⟨d3, op3, t3, pos3, after3, none⟩) (hq : ops[q]? = some ⟨d4, op4, t4, pos4, after4, none⟩)
    (hr : readyM pm.zipIdx m = [i, k, l, q]) (hd : okd n d = true) (hd2 : okd n d2 = true) (hd3 : okd n d3 = true) (hd4 : okd n d4 = true) (hmi : m ||| (1 <<< i) = mi) (hmk : m ||| (1 <<< k) = mk) (hml : m ||| (1 <<< l) = ml) (hmq : m ||| (1 <<< q) = mq)
    (hv : EF P W n L E ⟨d, op, t, pos, after, none⟩ (fun v L' => Sb M L' ∧ XM P W n ops Q M pm tm fuel mi L' (pt E d v)))
    (hv2 : EF P W n L E ⟨d2, op2, t2, pos2, after2, none⟩ (fun v L' => Sb M L' ∧ XM P W n ops Q M pm tm fuel mk L' (pt E d2 v)))
    (hv3 : EF P W n L E ⟨d3, op3, t3, pos3, after3, none⟩ (fun v L' => Sb M L' ∧ XM P W n ops Q M pm tm fuel ml L' (pt E d3 v)))
    (hv4 : EF P W n L E ⟨d4, op4, t4, pos4, after4, none⟩ (fun v L' => Sb M L' ∧ XM P W n ops Q M pm tm fuel mq L' (pt E d4 v))) : XM P W n ops Q M pm tm (fuel + 1) m L E := .mk fun h1 h2 h3 listed hrp a w ha hw => by
  have hmem : ∀ j, j ∈ Region.ready .any ops listed ↔ j = i ∨ j = k ∨ j = l ∨ j = q := fun j => by
    rw [ready_readyM hrp, h1, hr]; simp
  refine ⟨fun h => ?_, fun j hj => ?_⟩
  · have := (hmem i).2 (.inl rfl)
    rw [h] at this; cases this
  · rcases (hmem j).1 hj with rfl | rfl | rfl | rfl
    · exact xm_step h1 h2 h3 hi hd hmi hrp hv ha hw
    · exact xm_step h1 h2 h3 hk hd2 hmk hrp hv2 ha hw
    · exact xm_step h1 h2 h3 hl hd3 hml hrp hv3 ha hw
    · exact xm_step h1 h2 h3 hq hd4 hmq hrp hv4 ha hw
end
section
variable {P : Program} {W : World} {n : Nat} {L : List Blk} {E : List (Nat × Value)} {d : Option Nat} {t : TypeId} {pos : String} {after : Array Edge} {g : Option (Nat × Bool)} {Q : Exit → Go.Act → World → Prop}
theorem rd_xor {T T' : Nat} {x y : Operand} {k : IntKind} {i j : Int} (hx : ev E x = some (.int k i)) (hy : ev E y = some (.int k j)) :
    RD P W n L E ⟨d, .binOp .xor T x y T', t, pos, after, g⟩ (.int k (bits .xor k i j)) := .mk fun a w ha hw => by
  simp [execOp, ha.eval hx, ha.eval hy, eqGuard, binOp, intBits_xor]
theorem xor8_by (x y : Int) : 0 ≤ bits .xor .u8 x y ∧ bits .xor .u8 x y ≤ 255 := by
  obtain ⟨z, hz⟩ : ∃ z, bits .xor .u8 x y = IntKind.u8.wrap z := ⟨_, rfl⟩
  rw [hz, wrap8]; omega
/-- A loop whose own blocks stay. -/
theorem xc_loopK {c : Code} {ι : Type} (I : ι → Prop) (μ : ι → Nat) (Es : ι → List (Nat × Value)) (i0 : ι) (h0 : I i0) (hE : ∀ i v, lk (Es i0) i = some v → lk E i = some v)
    (round : ∀ i, I i → XC P W n c (Exit.then (fun a w => ∃ j, I j ∧ μ j < μ i ∧ Env n a (Es j) ∧ Hp W w L) Q) L (Es i)) : XC P W n (.loop c) Q L E := xc_loopI I μ (fun _ => L) Es i0 h0 rfl hE round
theorem xq_roundK {ι : Type} {I : ι → Prop} {μ : ι → Nat} {Es : ι → List (Nat × Value)} {m : Nat} {L' : List Blk} {e : Exit} (he : e = .normal) (j : ι) (hj : I j) (hm : μ j < m) (hL : L'.Sublist L) (hE : ∀ k v, lk (Es j) k = some v → lk E k = some v) :
    XQ W n (Exit.then (fun a w => ∃ j, I j ∧ μ j < m ∧ Env n a (Es j) ∧ Hp W w L') Q) e L E := by
  subst he; exact xq_sub hL (xq_roundI (Ls := fun _ => L') j hj hm rfl hE)
end
end Go.Proofs.Ytpheiklhjelkcaa.X
/-
  Chapter 19: frames are copied, and written over; few frames: walks of my own.
-/
namespace Go.Proofs.Ytpheiklhjelkcaa.X
open Go Go.RowKit
set_option linter.unusedVariables false
set_option linter.unusedSimpArgs false
/-- FewFrame. -/
structure Fr.Sm (x : Fr) : Prop where
  n : x.ps.length ≤ 60
  r : ∀ y, y ∈ x.ps → y.a.r.length ≤ 200
theorem Fr.Sm.few {x : Fr} (h : x.Sm) : x.Few := ⟨Nat.le_trans h.n (by decide), fun y hy => Nat.le_trans (h.r y hy) (by decide)⟩
theorem xf_FewFrame {W : World} {L : List Blk} (x : Fr) (hx : x.At W L) : XF Try.prog W 44 #[.agg x.enc.toArray] L (fun v L' => ∃ b, v = .bool b ∧ (b = true → x.Sm) ∧ L' = L) := by
  obtain ⟨hrs, hrt⟩ := hx
  rw [Fr.encE]
  generalize x.p = p at *
  refine xf_enter (args := [_]) Try.func44 rfl Try.ntmps44 rfl ?_
  focus
    refine xc_seq ?_
    refine xc_region ?_
    refine xo_ef rfl (ef_box rfl fun r1 => ?_)
    refine xo_rd (rd_assign rfl) rfl ?_
    refine xo_nil ?_
    refine xq_seq ?_
    refine xc_seq ?_
    refine xc_seq ?_
    refine xc_region ?_
    refine xo_rd (rd_assign rfl) rfl ?_
    refine xo_nil ?_
    refine xq_seq ?_
    refine xc_block ?_
  refine xc_loopK (ι := Nat) (fun i => i ≤ x.ps.length ∧ i ≤ 61 ∧ ∀ y, y ∈ x.ps.take i → y.a.r.length ≤ 200) (fun i => x.ps.length - i) (fun i => [(1, .pointer (some ⟨r1, 0, none⟩)), (3, .int .i64 i)]) 0 ⟨Nat.zero_le _, by decide, by simp⟩ (by repeat (first | exact keep_nil | refine keep_cons rfl ?_)) ?_
  rintro i ⟨hi, hi2, hr⟩
  by_cases hin : i < x.ps.length
  · by_cases hi6 : i < 61
    · obtain ⟨b, o, hp, hc⟩ := hrs.rows Pt.len (by decide) (by omega)
      subst hp
      have hci := hc i hin 13 _ rfl
      focus
        refine xc_seq ?_
        refine xc_seq ?_
        refine xc_region ?_
        refine xo_rd (rd_move rfl) rfl ?_
        refine xo_rd (rd_fieldAddr rfl) rfl ?_
        refine xo_rd (rd_load1 rfl (Cl.o0 rfl)) rfl ?_
        refine xo_rd (rd_len rfl) rfl ?_
        refine xo_rd (rd_lss rfl rfl) rfl ?_
        refine xo_rd (rd_move rfl) rfl ?_
        refine xo_dec 9 rfl (fun hq1 => ?_) (fun hq1 => (by exfalso; omega))
        refine xo_grd rfl rfl (rd_move rfl) rfl ?_
        refine xo_grd rfl rfl (rd_lss rfl rfl) rfl ?_
        refine xo_rd (rd_pickt rfl rfl) rfl ?_
        refine xo_nil ?_
        refine xq_seq ?_
        refine xc_dec rfl (fun hq2 => ?_) (fun hq2 => (by exfalso; omega))
        refine xc_skip ?_
        refine xq_seq ?_
        refine xc_seq ?_
        refine xc_block ?_
        refine xc_seq ?_
        refine xc_region ?_
        refine xo_rd (rd_fieldAddr rfl) rfl ?_
        refine xo_rd (rd_load1 rfl (Cl.o0 rfl)) rfl ?_
        refine xo_rd (rd_move rfl) rfl ?_
        refine xo_rd (rd_indexAddr rfl rfl (by omega) (by omega)) rfl ?_
        refine xo_rd (rd_fieldAddr rfl) rfl ?_
        refine xo_rd (rd_load1 rfl (hci.mono (by intro z hz; simp [hz]))) rfl ?_
        refine xo_rd (rd_len rfl) rfl ?_
        refine xo_rd (rd_gtr rfl rfl) rfl ?_
        refine xo_nil ?_
        refine xq_seq ?_
        refine xc_dec rfl (fun hq3 => ?_) (fun hq3 => ?_)
        refine xc_seq ?_
        refine xc_region ?_
        refine xo_rd (rd_assign rfl) rfl ?_
        refine xo_nil ?_
        refine xq_seq ?_
        refine xc_ret ?_
        refine xq_block_ret ?_
        refine xq_then_ret ?_
        refine xq_then_ret ?_
        refine xq_block_ret ?_
        refine xq_then_ret ?_
        rotate_left
        refine xc_skip ?_
        refine xq_block ?_
        refine xq_seq ?_
        refine xc_region ?_
        refine xo_rd (rd_move rfl) rfl ?_
        refine xo_rd (rd_addn rfl rfl (by omega) (by omega)) rfl ?_
        refine xo_rd (rd_assign rfl) rfl ?_
        refine xo_nil ?_
        rotate_left
      · refine xq_tail ?_
        exact xq_ret1 (.inl rfl) Try.results44 rfl ⟨false, rfl, (fun h => by cases h), rfl⟩
      · refine xq_roundK rfl (i + 1) ⟨by omega, by omega, fun y hy => ?_⟩ (by omega) (List.Sublist.refl _) (by repeat (first | exact keep_nil | refine keep_cons rfl ?_))
        rw [List.take_add_one, List.getElem?_eq_getElem hin] at hy
        rcases List.mem_append.1 hy with h | h
        · exact hr y h
        · rw [List.mem_singleton.1 h]; omega
    · focus
        refine xc_seq ?_
        refine xc_seq ?_
        refine xc_region ?_
        refine xo_rd (rd_move rfl) rfl ?_
        refine xo_rd (rd_fieldAddr rfl) rfl ?_
        refine xo_rd (rd_load1 rfl (Cl.o0 rfl)) rfl ?_
        refine xo_rd (rd_len rfl) rfl ?_
        refine xo_rd (rd_lss rfl rfl) rfl ?_
        refine xo_rd (rd_move rfl) rfl ?_
        refine xo_dec 9 rfl (fun h1 => ?_) (fun h1 => (by exfalso; omega))
        refine xo_grd rfl rfl (rd_move rfl) rfl ?_
        refine xo_grd rfl rfl (rd_lss rfl rfl) rfl ?_
        refine xo_rd (rd_pickt rfl rfl) rfl ?_
        refine xo_nil ?_
        refine xq_seq ?_
        refine xc_dec rfl (fun h2 => (by exfalso; omega)) (fun h2 => ?_)
        refine xc_exit ?_
        refine xq_then_exit ?_
        refine xq_then_exit ?_
        refine xq_block_hit ?_
        refine xq_seq ?_
        refine xc_seq ?_
        refine xc_region ?_
        refine xo_rd (rd_fieldAddr rfl) rfl ?_
        refine xo_rd (rd_load1 rfl (Cl.o0 rfl)) rfl ?_
        refine xo_rd (rd_len rfl) rfl ?_
        refine xo_rd (rd_leq rfl rfl) rfl ?_
        refine xo_rd (rd_assign rfl) rfl ?_
        refine xo_nil ?_
        refine xq_seq ?_
        refine xc_ret ?_
      refine xq_tail ?_
      refine xq_ret1 (.inl rfl) Try.results44 rfl ⟨false, ?_, (fun h => by cases h), rfl⟩
      rw [decide_eq_false (by omega)]
  · focus
      refine xc_seq ?_
      refine xc_seq ?_
      refine xc_region ?_
      refine xo_rd (rd_move rfl) rfl ?_
      refine xo_rd (rd_fieldAddr rfl) rfl ?_
      refine xo_rd (rd_load1 rfl (Cl.o0 rfl)) rfl ?_
      refine xo_rd (rd_len rfl) rfl ?_
      refine xo_rd (rd_lss rfl rfl) rfl ?_
      refine xo_rd (rd_move rfl) rfl ?_
      refine xo_dec 9 rfl (fun h1 => (by exfalso; omega)) (fun h1 => ?_)
      refine xo_gskip rfl rfl rfl rfl ?_
      refine xo_gskip rfl rfl rfl rfl ?_
      refine xo_rd (rd_pickf rfl rfl) rfl ?_
      refine xo_nil ?_
      refine xq_seq ?_
      refine xc_condf rfl ?_
      refine xc_exit ?_
      refine xq_then_exit ?_
      refine xq_then_exit ?_
      refine xq_block_hit ?_
      refine xq_seq ?_
      refine xc_seq ?_
      refine xc_region ?_
      refine xo_rd (rd_fieldAddr rfl) rfl ?_
      refine xo_rd (rd_load1 rfl (Cl.o0 rfl)) rfl ?_
      refine xo_rd (rd_len rfl) rfl ?_
      refine xo_rd (rd_leq rfl rfl) rfl ?_
      refine xo_rd (rd_assign rfl) rfl ?_
      refine xo_nil ?_
      refine xq_seq ?_
      refine xc_ret ?_
    refine xq_tail ?_
    refine xq_ret1 (.inl rfl) Try.results44 rfl ⟨_, rfl, fun h => ⟨by have := of_decide_eq_true h; omega, ?_⟩, rfl⟩
    rw [List.take_of_length_le (by omega)] at hr; exact hr
theorem perm_cp {p1 p2 : Blk} (a b c R : List Blk) : (a ++ (p1 :: p2 :: (b ++ (c ++ R)))).Perm (p1 :: p2 :: (b ++ (a ++ (c ++ R)))) := (by classical exact List.perm_iff_count.2 fun a => by simp only [List.append_eq, List.count_append, List.count_cons, List.count_nil, List.cons_append, List.nil_append, List.flatMap_append, List.flatMap_cons, List.flatMap_nil, List.append_nil]; omega)
theorem perm_sp (p : Blk) (a b c R : List Blk) : (p :: (a ++ ((b ++ c) ++ R))).Perm (b ++ (p :: (a ++ (c ++ R)))) := (by classical exact List.perm_iff_count.2 fun a => by simp only [List.append_eq, List.count_append, List.count_cons, List.count_nil, List.cons_append, List.nil_append, List.flatMap_append, List.flatMap_cons, List.flatMap_nil, List.append_nil]; omega)
/-- The state of Copy. -/
structure CpS where
  i : Nat
  ys : List Pt
  l : List Blk
  bs : List Blk
theorem xf_Copy {W : World} {L : List Blk} (x : Fr) (hx : x.At W L) (hf : x.Few) : XF Try.prog W 20 #[.agg x.enc.toArray] L (fun v L' => ∃ y : Fr, v = .agg y.enc.toArray ∧ y.a = x.a ∧ y.Ok 116 ∧ L' = y.bl ++ L) := by
  obtain ⟨hrs, hrt⟩ := hx
  obtain ⟨hn, hfr⟩ := hf
  rw [Fr.encE]
  generalize x.p = p at *
  refine xf_enter (args := [_]) Try.func20 rfl Try.ntmps20 rfl ?_
  focus
    refine xc_seq ?_
    refine xc_region ?_
    refine xo_ef rfl (ef_box rfl fun r1 => ?_)
    refine xo_ef rfl (ef_alloc fun r2 => ?_)
    refine xo_nil ?_
    refine xq_seq ?_
    refine xc_seq ?_
    refine xc_region ?_
    refine xo_rd (rd_fieldAddr rfl) rfl ?_
    refine xo_rd (rd_load1 rfl (Cl.o1 rfl)) rfl ?_
    refine xo_ef rfl (ef_call rfl (XF.mono (xf_cloneP p x.ps.length x.c (x.ps.flatMap Pt.enc) (flat_len Pt.len _) (hrs.mono (by intro z hz; simp [hz])) (flat_one Pt.one _) (by omega)) ?_))
    rintro v L' ⟨q, k, l, rfl, hO, hk, rfl⟩
    refine xo_seg [_, _] l _ ?_
    refine xo_rd (rd_fieldAddr rfl) rfl ?_
    refine xo_ef rfl (ef_store1 [_] _ rfl rfl (by first | rfl | assumption) rfl rfl rfl ?_)
    refine xo_nil ?_
    refine xq_seq ?_
    refine xc_seq ?_
    refine xc_seq ?_
    refine xc_region ?_
    refine xo_rd (rd_fieldAddr rfl) rfl ?_
    refine xo_rd (rd_load1 rfl (Cl.o1 rfl)) rfl ?_
    refine xo_rd (rd_len rfl) rfl ?_
    refine xo_rd (rd_move rfl) rfl ?_
    refine xo_nil ?_
    refine xq_seq ?_
    refine xc_block ?_
  refine xc_loopI (ι := CpS) (fun s => s.i ≤ x.ps.length ∧ s.ys.map Pt.a = x.ps.map Pt.a ∧ (∀ j y, s.ys[j]? = some y → (j < s.i → SlO 1 5 (.slice y.p y.a.r.length y.c) y.a.r.length (ints .u8 y.a.r) y.l) ∧ (s.i ≤ j → Rs W L y.p (ints .u8 y.a.r))) ∧ SlQ 14 116 (.slice q x.ps.length k) x.ps.length (s.ys.flatMap Pt.enc) s.l ∧ s.bs.Perm (pbl (s.ys.take s.i))) (fun s => x.ps.length - s.i) (fun s => (r2, .cells (frE zIf false none 0 0).toArray 41 (0, 0)) :: (r1, .cells (frE x.i x.k q x.ps.length k).toArray 41 (0, 0)) :: (s.l ++ (s.bs ++ L))) (fun s => [(1, .pointer (some ⟨r1, 0, none⟩)), (2, .pointer (some ⟨r2, 0, none⟩)), (10, .int .i64 x.ps.length), (11, .int .i64 s.i)]) ⟨0, x.ps, l, []⟩ ⟨Nat.zero_le _, rfl, fun j y hj => ⟨fun h => absurd h (Nat.not_lt_zero _), fun _ => hrt y (List.mem_of_getElem? hj)⟩, hO.q, List.Perm.refl _⟩ rfl (by repeat (first | exact keep_nil | refine keep_cons rfl ?_)) ?_
  rintro ⟨i, ys, l, bs⟩ ⟨hi, hya, hyo, hsl, hpm⟩
  dsimp only at hi hya hyo hsl hpm ⊢
  have hyl : ys.length = x.ps.length := by have := congrArg List.length hya; simpa using this
  by_cases hin : i < x.ps.length
  · have hR : Rs W ((r2, .cells (frE zIf false none 0 0).toArray 41 (0, 0)) :: (r1, .cells (frE x.i x.k q x.ps.length k).toArray 41 (0, 0)) :: (l ++ (bs ++ L))) q (ys.flatMap Pt.enc) := hsl.rs (by intro z hz; simp [hz])
    obtain ⟨b, o, hq, hc⟩ := hR.rows Pt.len (by decide) (by omega)
    subst hq
    have hy1 : ys[i]? = some ys[i] := List.getElem?_eq_getElem (by omega)
    have hci := hc i (by omega) 13 _ rfl
    have hyi := (hyo i _ hy1).2 (Nat.le_refl _)
    have hyn : ys[i].a.r.length ≤ 1000 := by
      have : ys[i].a ∈ x.ps.map Pt.a := hya ▸ List.mem_map.2 ⟨_, List.getElem_mem _, rfl⟩
      obtain ⟨u, hu, he⟩ := List.mem_map.1 this
      rw [← he]; exact hfr u hu
    generalize ys[i] = y at *
    focus
      refine xc_seq ?_
      refine xc_region ?_
      refine xo_rd (rd_lss rfl rfl) rfl ?_
      refine xo_nil ?_
      refine xq_seq ?_
      refine xc_seq ?_
      refine xc_dec rfl (fun h1 => ?_) (fun h1 => (by exfalso; omega))
      refine xc_skip ?_
      refine xq_seq ?_
      refine xc_seq ?_
      refine xc_block ?_
      refine xc_seq ?_
      refine xc_region ?_
      refine xo_rd (rd_move rfl) rfl ?_
      refine xo_rd (rd_assign rfl) rfl ?_
      refine xo_nil ?_
      refine xq_seq ?_
      refine xc_drawM [0, 1, 0, 0, 8, 0, 48, 64, 128, 256, 1023, 2047, 3071] [0, 1, 0, 0, 8, 0, 48, 64, 128, 256, 1023, 2047, 3071] [] (by kernel_rfl) (by kernel_rfl) (by kernel_rfl) ?_
      refine xm_take 0 (m' := 1) rfl (by kernel_rfl) (by first | exact Sb.refl | exact Sb.nil | (repeat (first | exact Sb.nil | exact Sb.refl | exact Sb.app0 | apply Sb.keep | apply Sb.keepApp | apply Sb.cons | apply Sb.app))) (rd_fieldAddr rfl) rfl (by kernel_rfl) ?_
      refine xm_take 2 (m' := 5) rfl (by kernel_rfl) (by first | exact Sb.refl | exact Sb.nil | (repeat (first | exact Sb.nil | exact Sb.refl | exact Sb.app0 | apply Sb.keep | apply Sb.keepApp | apply Sb.cons | apply Sb.app))) (rd_move rfl) rfl (by kernel_rfl) ?_
      refine xm_take 3 (m' := 13) rfl (by kernel_rfl) (by first | exact Sb.refl | exact Sb.nil | (repeat (first | exact Sb.nil | exact Sb.refl | exact Sb.app0 | apply Sb.keep | apply Sb.keepApp | apply Sb.cons | apply Sb.app))) (rd_fieldAddr rfl) rfl (by kernel_rfl) ?_
      refine xm_take 5 (m' := 45) rfl (by kernel_rfl) (by first | exact Sb.refl | exact Sb.nil | (repeat (first | exact Sb.nil | exact Sb.refl | exact Sb.app0 | apply Sb.keep | apply Sb.keepApp | apply Sb.cons | apply Sb.app))) (rd_move rfl) rfl (by kernel_rfl) ?_
      refine xm_two 1 4 (mi := 47) (mk := 61) rfl rfl (by kernel_rfl) rfl rfl (by kernel_rfl) (by kernel_rfl) (ef_rd (rd_load1 rfl (Cl.o1 rfl)) ⟨(by first | exact Sb.refl | exact Sb.nil | (repeat (first | exact Sb.nil | exact Sb.refl | exact Sb.app0 | apply Sb.keep | apply Sb.keepApp | apply Sb.cons | apply Sb.app))), ?_⟩) (ef_rd (rd_load1 rfl (Cl.o1 rfl)) ⟨(by first | exact Sb.refl | exact Sb.nil | (repeat (first | exact Sb.nil | exact Sb.refl | exact Sb.app0 | apply Sb.keep | apply Sb.keepApp | apply Sb.cons | apply Sb.app))), ?_⟩)
      refine xm_one 4 (m' := 63) rfl (by kernel_rfl) rfl (by kernel_rfl) (ef_rd (rd_load1 rfl (Cl.o1 rfl)) ?_)
      refine ⟨(by first | exact Sb.refl | exact Sb.nil | (repeat (first | exact Sb.nil | exact Sb.refl | exact Sb.app0 | apply Sb.keep | apply Sb.keepApp | apply Sb.cons | apply Sb.app))), ?_⟩
      refine xm_take 6 (m' := 127) rfl (by kernel_rfl) (by first | exact Sb.refl | exact Sb.nil | (repeat (first | exact Sb.nil | exact Sb.refl | exact Sb.app0 | apply Sb.keep | apply Sb.keepApp | apply Sb.cons | apply Sb.app))) (rd_indexAddr rfl rfl (by omega) (by omega)) rfl (by kernel_rfl) ?_
      refine xm_take 7 (m' := 255) rfl (by kernel_rfl) (by first | exact Sb.refl | exact Sb.nil | (repeat (first | exact Sb.nil | exact Sb.refl | exact Sb.app0 | apply Sb.keep | apply Sb.keepApp | apply Sb.cons | apply Sb.app))) (rd_fieldAddr rfl) rfl (by kernel_rfl) ?_
      refine xm_one 8 (m' := 511) rfl (by kernel_rfl) rfl (by kernel_rfl) (ef_rd (rd_load1 rfl hci) ?_)
      refine ⟨(by first | exact Sb.refl | exact Sb.nil | (repeat (first | exact Sb.nil | exact Sb.refl | exact Sb.app0 | apply Sb.keep | apply Sb.keepApp | apply Sb.cons | apply Sb.app))), ?_⟩
      refine xm_one 9 (m' := 1023) rfl (by kernel_rfl) rfl (by kernel_rfl) (ef_call rfl (XF.mono (xf_clone y.p y.a.r.length y.c (ints .u8 y.a.r) (by rw [ints_len, Nat.mul_one]) (hyi.mono (by intro z hz; simp [hz])) (ints_one _ _) (by omega)) ?_))
      rintro v L' ⟨q', k', l', rfl, hO', hk', rfl⟩
      refine xmx_perm (perm_cp l' l bs L) ?_
      refine ⟨(by first | exact Sb.refl | exact Sb.nil | (repeat (first | exact Sb.nil | exact Sb.refl | exact Sb.app0 | apply Sb.keep | apply Sb.keepApp | apply Sb.cons | apply Sb.app))), ?_⟩
      refine xm_take 10 (m' := 2047) rfl (by kernel_rfl) (by first | exact Sb.refl | exact Sb.nil | (repeat (first | exact Sb.nil | exact Sb.refl | exact Sb.app0 | apply Sb.keep | apply Sb.keepApp | apply Sb.cons | apply Sb.app))) (rd_indexAddr rfl rfl (by omega) (by omega)) rfl (by kernel_rfl) ?_
      refine xm_take 11 (m' := 4095) rfl (by kernel_rfl) (by first | exact Sb.refl | exact Sb.nil | (repeat (first | exact Sb.nil | exact Sb.refl | exact Sb.app0 | apply Sb.keep | apply Sb.keepApp | apply Sb.cons | apply Sb.app))) (rd_fieldAddr rfl) rfl (by kernel_rfl) ?_
      refine xm_one 12 (m' := 8191) rfl (by kernel_rfl) rfl (by kernel_rfl) (ef_storeQ1 [_, _] (l' ++ (bs ++ L)) (i * 14 + 13) hsl rfl (by omega) rfl rfl rfl (by omega) rfl fun l2 hO2 => ?_)
      refine ⟨(by first | exact Sb.refl | exact Sb.nil | (repeat (first | exact Sb.nil | exact Sb.refl | exact Sb.app0 | apply Sb.keep | apply Sb.keepApp | apply Sb.cons | apply Sb.app))), ?_⟩
      refine xm_done (by kernel_rfl) ?_
      refine xq_block ?_
      refine xq_seq ?_
      refine xc_region ?_
      refine xo_rd (rd_addn rfl rfl (by omega) (by omega)) rfl ?_
      refine xo_rd (rd_move rfl) rfl ?_
      refine xo_nil ?_
      rotate_left
      refine xm_take 6 (m' := 125) rfl (by kernel_rfl) (by first | exact Sb.refl | exact Sb.nil | (repeat (first | exact Sb.nil | exact Sb.refl | exact Sb.app0 | apply Sb.keep | apply Sb.keepApp | apply Sb.cons | apply Sb.app))) (rd_indexAddr rfl rfl (by omega) (by omega)) rfl (by kernel_rfl) ?_
      refine xm_take 7 (m' := 253) rfl (by kernel_rfl) (by first | exact Sb.refl | exact Sb.nil | (repeat (first | exact Sb.nil | exact Sb.refl | exact Sb.app0 | apply Sb.keep | apply Sb.keepApp | apply Sb.cons | apply Sb.app))) (rd_fieldAddr rfl) rfl (by kernel_rfl) ?_
      refine xm_two 1 8 (mi := 255) (mk := 509) rfl rfl (by kernel_rfl) rfl rfl (by kernel_rfl) (by kernel_rfl) (ef_rd (rd_load1 rfl (Cl.o1 rfl)) ⟨(by first | exact Sb.refl | exact Sb.nil | (repeat (first | exact Sb.nil | exact Sb.refl | exact Sb.app0 | apply Sb.keep | apply Sb.keepApp | apply Sb.cons | apply Sb.app))), ?_⟩) (ef_rd (rd_load1 rfl hci) ⟨(by first | exact Sb.refl | exact Sb.nil | (repeat (first | exact Sb.nil | exact Sb.refl | exact Sb.app0 | apply Sb.keep | apply Sb.keepApp | apply Sb.cons | apply Sb.app))), ?_⟩)
      refine xm_one 8 (m' := 511) rfl (by kernel_rfl) rfl (by kernel_rfl) (ef_rd (rd_load1 rfl hci) ?_)
      refine ⟨(by first | exact Sb.refl | exact Sb.nil | (repeat (first | exact Sb.nil | exact Sb.refl | exact Sb.app0 | apply Sb.keep | apply Sb.keepApp | apply Sb.cons | apply Sb.app))), ?_⟩
      refine xm_one 9 (m' := 1023) rfl (by kernel_rfl) rfl (by kernel_rfl) (ef_call rfl (XF.mono (xf_clone y.p y.a.r.length y.c (ints .u8 y.a.r) (by rw [ints_len, Nat.mul_one]) (hyi.mono (by intro z hz; simp [hz])) (ints_one _ _) (by omega)) ?_))
      rintro v L' ⟨q', k', l', rfl, hO', hk', rfl⟩
      refine xmx_perm (perm_cp l' l bs L) ?_
      refine ⟨(by first | exact Sb.refl | exact Sb.nil | (repeat (first | exact Sb.nil | exact Sb.refl | exact Sb.app0 | apply Sb.keep | apply Sb.keepApp | apply Sb.cons | apply Sb.app))), ?_⟩
      refine xm_take 10 (m' := 2047) rfl (by kernel_rfl) (by first | exact Sb.refl | exact Sb.nil | (repeat (first | exact Sb.nil | exact Sb.refl | exact Sb.app0 | apply Sb.keep | apply Sb.keepApp | apply Sb.cons | apply Sb.app))) (rd_indexAddr rfl rfl (by omega) (by omega)) rfl (by kernel_rfl) ?_
      refine xm_take 11 (m' := 4095) rfl (by kernel_rfl) (by first | exact Sb.refl | exact Sb.nil | (repeat (first | exact Sb.nil | exact Sb.refl | exact Sb.app0 | apply Sb.keep | apply Sb.keepApp | apply Sb.cons | apply Sb.app))) (rd_fieldAddr rfl) rfl (by kernel_rfl) ?_
      refine xm_one 12 (m' := 8191) rfl (by kernel_rfl) rfl (by kernel_rfl) (ef_storeQ1 [_, _] (l' ++ (bs ++ L)) (i * 14 + 13) hsl rfl (by omega) rfl rfl rfl (by omega) rfl fun l2 hO2 => ?_)
      refine ⟨(by first | exact Sb.refl | exact Sb.nil | (repeat (first | exact Sb.nil | exact Sb.refl | exact Sb.app0 | apply Sb.keep | apply Sb.keepApp | apply Sb.cons | apply Sb.app))), ?_⟩
      refine xm_done (by kernel_rfl) ?_
      refine xq_block ?_
      refine xq_seq ?_
      refine xc_region ?_
      refine xo_rd (rd_addn rfl rfl (by omega) (by omega)) rfl ?_
      refine xo_rd (rd_move rfl) rfl ?_
      refine xo_nil ?_
      rotate_left
      refine xm_two 1 9 (mi := 511) (mk := 1021) rfl rfl (by kernel_rfl) rfl rfl (by kernel_rfl) (by kernel_rfl) (ef_rd (rd_load1 rfl (Cl.o1 rfl)) ⟨(by first | exact Sb.refl | exact Sb.nil | (repeat (first | exact Sb.nil | exact Sb.refl | exact Sb.app0 | apply Sb.keep | apply Sb.keepApp | apply Sb.cons | apply Sb.app))), ?_⟩) (ef_call rfl (XF.mono (xf_clone y.p y.a.r.length y.c (ints .u8 y.a.r) (by rw [ints_len, Nat.mul_one]) (hyi.mono (by intro z hz; simp [hz])) (ints_one _ _) (by omega)) ?_))
      rotate_left
      rintro v L' ⟨q', k', l', rfl, hO', hk', rfl⟩
      refine xmx_perm (perm_cp l' l bs L) ?_
      refine ⟨(by first | exact Sb.refl | exact Sb.nil | (repeat (first | exact Sb.nil | exact Sb.refl | exact Sb.app0 | apply Sb.keep | apply Sb.keepApp | apply Sb.cons | apply Sb.app))), ?_⟩
      rotate_right
      refine xm_one 9 (m' := 1023) rfl (by kernel_rfl) rfl (by kernel_rfl) (ef_call rfl (XF.mono (xf_clone y.p y.a.r.length y.c (ints .u8 y.a.r) (by rw [ints_len, Nat.mul_one]) (hyi.mono (by intro z hz; simp [hz])) (ints_one _ _) (by omega)) ?_))
      rintro v L' ⟨q', k', l', rfl, hO', hk', rfl⟩
      refine xmx_perm (perm_cp l' l bs L) ?_
      refine ⟨(by first | exact Sb.refl | exact Sb.nil | (repeat (first | exact Sb.nil | exact Sb.refl | exact Sb.app0 | apply Sb.keep | apply Sb.keepApp | apply Sb.cons | apply Sb.app))), ?_⟩
      refine xm_take 10 (m' := 2047) rfl (by kernel_rfl) (by first | exact Sb.refl | exact Sb.nil | (repeat (first | exact Sb.nil | exact Sb.refl | exact Sb.app0 | apply Sb.keep | apply Sb.keepApp | apply Sb.cons | apply Sb.app))) (rd_indexAddr rfl rfl (by omega) (by omega)) rfl (by kernel_rfl) ?_
      refine xm_take 11 (m' := 4095) rfl (by kernel_rfl) (by first | exact Sb.refl | exact Sb.nil | (repeat (first | exact Sb.nil | exact Sb.refl | exact Sb.app0 | apply Sb.keep | apply Sb.keepApp | apply Sb.cons | apply Sb.app))) (rd_fieldAddr rfl) rfl (by kernel_rfl) ?_
      refine xm_one 12 (m' := 8191) rfl (by kernel_rfl) rfl (by kernel_rfl) (ef_storeQ1 [_, _] (l' ++ (bs ++ L)) (i * 14 + 13) hsl rfl (by omega) rfl rfl rfl (by omega) rfl fun l2 hO2 => ?_)
      refine ⟨(by first | exact Sb.refl | exact Sb.nil | (repeat (first | exact Sb.nil | exact Sb.refl | exact Sb.app0 | apply Sb.keep | apply Sb.keepApp | apply Sb.cons | apply Sb.app))), ?_⟩
      refine xm_done (by kernel_rfl) ?_
      refine xq_block ?_
      refine xq_seq ?_
      refine xc_region ?_
      refine xo_rd (rd_addn rfl rfl (by omega) (by omega)) rfl ?_
      refine xo_rd (rd_move rfl) rfl ?_
      refine xo_nil ?_
      rotate_left
      refine xm_one 1 (m' := 1023) rfl (by kernel_rfl) rfl (by kernel_rfl) (ef_rd (rd_load1 rfl (Cl.o1 rfl)) ?_)
      refine ⟨(by first | exact Sb.refl | exact Sb.nil | (repeat (first | exact Sb.nil | exact Sb.refl | exact Sb.app0 | apply Sb.keep | apply Sb.keepApp | apply Sb.cons | apply Sb.app))), ?_⟩
      refine xm_take 10 (m' := 2047) rfl (by kernel_rfl) (by first | exact Sb.refl | exact Sb.nil | (repeat (first | exact Sb.nil | exact Sb.refl | exact Sb.app0 | apply Sb.keep | apply Sb.keepApp | apply Sb.cons | apply Sb.app))) (rd_indexAddr rfl rfl (by omega) (by omega)) rfl (by kernel_rfl) ?_
      refine xm_take 11 (m' := 4095) rfl (by kernel_rfl) (by first | exact Sb.refl | exact Sb.nil | (repeat (first | exact Sb.nil | exact Sb.refl | exact Sb.app0 | apply Sb.keep | apply Sb.keepApp | apply Sb.cons | apply Sb.app))) (rd_fieldAddr rfl) rfl (by kernel_rfl) ?_
      refine xm_one 12 (m' := 8191) rfl (by kernel_rfl) rfl (by kernel_rfl) (ef_storeQ1 [_, _] (l' ++ (bs ++ L)) (i * 14 + 13) hsl rfl (by omega) rfl rfl rfl (by omega) rfl fun l2 hO2 => ?_)
      refine ⟨(by first | exact Sb.refl | exact Sb.nil | (repeat (first | exact Sb.nil | exact Sb.refl | exact Sb.app0 | apply Sb.keep | apply Sb.keepApp | apply Sb.cons | apply Sb.app))), ?_⟩
      refine xm_done (by kernel_rfl) ?_
      refine xq_block ?_
      refine xq_seq ?_
      refine xc_region ?_
      refine xo_rd (rd_addn rfl rfl (by omega) (by omega)) rfl ?_
      refine xo_rd (rd_move rfl) rfl ?_
      refine xo_nil ?_
      rotate_left
    all_goals
      refine xq_roundI (⟨i + 1, ys.set i ⟨y.a, q', k', l'⟩, l2, l' ++ bs⟩ : CpS) ⟨by dsimp only; omega, ?_, ?_, ?_, ?_⟩ (by dsimp only; omega) (by dsimp only; rw [List.append_assoc]; rfl) (by repeat (first | exact keep_nil | refine keep_cons rfl ?_))
      · exact (map_set_same Pt.a ys i y (⟨y.a, q', k', l'⟩ : Pt) hy1 rfl).trans hya
      · dsimp only
        intro j z hj
        by_cases hji : j = i
        · subst hji
          rw [List.getElem?_set_self (by omega)] at hj
          cases hj
          exact ⟨fun _ => hO', fun h => by omega⟩
        · rw [List.getElem?_set_ne (fun e => hji e.symm)] at hj
          exact ⟨fun h => (hyo j z hj).1 (by omega), fun h => (hyo j z hj).2 (by omega)⟩
      · dsimp only
        rw [flat_set1 Pt.len ys i 13 y _ (.slice q' y.a.r.length k') hy1 (by decide) rfl]; exact hO2
      · dsimp only
        rw [pbl_set _ _ _ (by omega)]
        exact (List.Perm.append_left l' hpm).trans List.perm_append_comm
  · focus
      refine xc_seq ?_
      refine xc_region ?_
      refine xo_rd (rd_lss rfl rfl) rfl ?_
      refine xo_nil ?_
      refine xq_seq ?_
      refine xc_seq ?_
      refine xc_dec rfl (fun h1 => (by exfalso; omega)) (fun h1 => ?_)
      refine xc_exit ?_
      refine xq_then_exit ?_
      refine xq_then_exit ?_
      refine xq_block_hit ?_
      refine xq_seq ?_
      refine xc_seq ?_
      refine xc_region ?_
      refine xo_rd (rd_loadB rfl Kn.o1 (by rfl)) rfl ?_
      refine xo_ef rfl (ef_storeB [] _ rfl rfl (by first | rfl | assumption) rfl rfl rfl ?_)
      refine xo_nil ?_
      refine xq_seq ?_
      refine xc_ret ?_
    have hiN : i = x.ps.length := by omega
    subst hiN
    rw [List.take_of_length_le (by omega)] at hpm
    refine xq_permT [_, _] ((hpm.append_right L).append_left l) ?_
    refine xq_retB (.inl rfl) Try.results20 rfl Kn.o0 rfl (List.sublist_append_right [_, _] _) ⟨⟨x.i, x.k, ys, q, k, l⟩, ?_, ?_, ⟨?_, ?_⟩, ?_⟩
    · unfold Fr.enc; dsimp only; rw [hyl]
    · unfold Fr.a; dsimp only; rw [hya]
    · dsimp only; rw [hyl]; exact hsl
    · intro y hy
      obtain ⟨j, hj, he⟩ := List.getElem_of_mem hy
      exact (hyo j y (by rw [← he]; exact List.getElem?_eq_getElem hj)).1 (by dsimp only at hj; omega)
    · unfold Fr.bl; dsimp only; rw [List.append_assoc]
def zDc7 : Dc := ⟨false, false, 7, false, false, 0, false, 0, false, 0, false, false, 0⟩
/-- SpoilFrame: an own frame is written over; its blocks go. -/
theorem xf_SpoilFrame {W : World} {L : List Blk} (x : Fr) (hx : x.Ok 116) (hf : x.Few) : XF Try.prog W 19 #[.agg x.enc.toArray] (x.bl ++ L) (fun v L' => v = .tuple #[] ∧ L' = L) := by
  obtain ⟨hrs, hrt⟩ := hx
  obtain ⟨hn, hfr⟩ := hf
  unfold Fr.bl
  rw [Fr.encE]
  generalize x.p = p at *
  refine xf_enter (args := [_]) Try.func19 rfl Try.ntmps19 rfl ?_
  focus
    refine xc_seq ?_
    refine xc_region ?_
    refine xo_ef rfl (ef_box rfl fun r1 => ?_)
    refine xo_nil ?_
    refine xq_seq ?_
    refine xc_seq ?_
    refine xc_region ?_
    refine xo_rd (rd_assign rfl) rfl ?_
    refine xo_nil ?_
    refine xq_seq ?_
    refine xc_block ?_
  refine xc_loopI (ι := Nat × List Value × List Blk) (fun s => s.1 ≤ x.ps.length ∧ SlQ 14 116 (.slice p x.ps.length x.c) x.ps.length s.2.1 s.2.2 ∧ s.2.1.drop (s.1 * 14) = (x.ps.drop s.1).flatMap Pt.enc) (fun s => x.ps.length - s.1) (fun s => (r1, .cells (frE x.i x.k p x.ps.length x.c).toArray 41 (0, 0)) :: (s.2.2 ++ (pbl (x.ps.drop s.1) ++ L))) (fun s => [(1, .pointer (some ⟨r1, 0, none⟩)), (2, .int .i64 s.1)]) (0, x.ps.flatMap Pt.enc, x.l) ⟨Nat.zero_le _, hrs, by simp⟩ (by simp; rfl) (by repeat (first | exact keep_nil | refine keep_cons rfl ?_)) ?_
  rintro ⟨i, xs, l⟩ ⟨hi, hsl, hd⟩
  dsimp only at hi hsl hd ⊢
  by_cases hin : i < x.ps.length
  · have hpb : pbl (x.ps.drop i) = x.ps[i].l ++ pbl (x.ps.drop (i + 1)) := by rw [List.drop_eq_getElem_cons hin]; rfl
    have hyo := hrt x.ps[i] (List.getElem_mem _)
    have hyn := hfr x.ps[i] (List.getElem_mem _)
    have hx13 : xs[i * 14 + 13]? = some (.slice x.ps[i].p x.ps[i].a.r.length x.ps[i].c) := by
      rw [← List.getElem?_drop, hd, List.drop_eq_getElem_cons hin]; rfl
    rw [hpb]
    generalize x.ps[i] = y at *
    have hR : Rs W ((r1, .cells (frE x.i x.k p x.ps.length x.c).toArray 41 (0, 0)) :: (l ++ ((y.l ++ pbl (x.ps.drop (i + 1))) ++ L))) p xs := hsl.rs (by intro z hz; simp [hz])
    obtain ⟨b, o, hp, hc⟩ := hR _ _ hx13
    subst hp
    have hc' := hc
    rw [← Nat.add_assoc] at hc'
    focus
      refine xc_seq ?_
      refine xc_seq ?_
      refine xc_region ?_
      refine xo_rd (rd_move rfl) rfl ?_
      refine xo_rd (rd_fieldAddr rfl) rfl ?_
      refine xo_rd (rd_load1 rfl (Cl.o0 rfl)) rfl ?_
      refine xo_rd (rd_len rfl) rfl ?_
      refine xo_rd (rd_lss rfl rfl) rfl ?_
      refine xo_nil ?_
      refine xq_seq ?_
      refine xc_dec rfl (fun h1 => ?_) (fun h1 => (by exfalso; omega))
      refine xc_skip ?_
      refine xq_seq ?_
      refine xc_seq ?_
      refine xc_block ?_
      refine xc_seq ?_
      refine xc_region ?_
      refine xo_rd (rd_fieldAddr rfl) rfl ?_
      refine xo_rd (rd_load1 rfl (Cl.o0 rfl)) rfl ?_
      refine xo_rd (rd_move rfl) rfl ?_
      refine xo_rd (rd_indexAddr rfl rfl (by omega) (by omega)) rfl ?_
      refine xo_rd (rd_fieldAddr rfl) rfl ?_
      refine xo_rd (rd_load1 rfl hc') rfl ?_
      refine xo_ef rfl (ef_call rfl (XF.mono ((xf_spoil _ _ _ y.l hyo (by omega)).perm (perm_sp _ l y.l (pbl (x.ps.drop (i + 1))) L)) ?_))
      rintro v L' ⟨rfl, xs', l', hO', rfl⟩
      refine xo_sub (List.sublist_append_right l' _) ?_
      refine xo_nil ?_
      refine xq_seq ?_
      refine xc_region ?_
      refine xo_rd (rd_fieldAddr rfl) rfl ?_
      refine xo_rd (rd_load1 rfl (Cl.o0 rfl)) rfl ?_
      refine xo_rd (rd_move rfl) rfl ?_
      refine xo_rd (rd_build rfl rfl rfl) rfl ?_
      refine xo_rd (rd_indexAddr rfl rfl (by omega) (by omega)) rfl ?_
      refine xo_rd (rd_fieldAddr rfl) rfl ?_
      refine xo_ef rfl (ef_storeQs (s := 13) (vs := zDc7.enc) [_] (pbl (x.ps.drop (i + 1)) ++ L) (i * 14) hsl rfl (by omega) rfl rfl rfl rfl (by omega) rfl fun l2 hO2 => ?_)
      refine xo_nil ?_
      refine xq_block ?_
      refine xq_seq ?_
      refine xc_region ?_
      refine xo_rd (rd_move rfl) rfl ?_
      refine xo_rd (rd_addn rfl rfl (by omega) (by omega)) rfl ?_
      refine xo_rd (rd_assign rfl) rfl ?_
      refine xo_nil ?_
    refine xq_roundI (i + 1, _, l2) ⟨by dsimp only; omega, hO2, ?_⟩ (by dsimp only; omega) rfl (by repeat (first | exact keep_nil | refine keep_cons rfl ?_))
    dsimp only
    have hxl := hsl.len
    have e1 : (i + 1) * 14 = i * 14 + 14 := by omega
    have hl14 : x.ps.length * 14 ≥ (i + 1) * 14 := Nat.mul_le_mul_right _ (by omega)
    rw [List.append_assoc, e1, ← List.drop_drop, List.drop_left' (by rw [List.length_take]; omega)]
    rw [List.drop_append, List.drop_eq_nil_of_le (by rw [Dc.len]; decide), List.nil_append, Dc.len, List.drop_drop]
    have e3 : i * 14 + 13 + (14 - 13) = (i + 1) * 14 := by omega
    rw [e3, e1, ← List.drop_drop, hd, List.drop_eq_getElem_cons hin, List.flatMap_cons, List.drop_left' (Pt.len _)]
  · focus
      refine xc_seq ?_
      refine xc_seq ?_
      refine xc_region ?_
      refine xo_rd (rd_move rfl) rfl ?_
      refine xo_rd (rd_fieldAddr rfl) rfl ?_
      refine xo_rd (rd_load1 rfl (Cl.o0 rfl)) rfl ?_
      refine xo_rd (rd_len rfl) rfl ?_
      refine xo_rd (rd_lss rfl rfl) rfl ?_
      refine xo_nil ?_
      refine xq_seq ?_
      refine xc_dec rfl (fun h1 => (by exfalso; omega)) (fun h1 => ?_)
      refine xc_exit ?_
      refine xq_then_exit ?_
      refine xq_then_exit ?_
      refine xq_block_hit ?_
    exact xq_sub ((List.sublist_append_right _ _).trans ((List.sublist_append_right _ _).trans (List.sublist_cons_self _ _))) (xq_ret0 (.inr rfl) Try.results19 ⟨rfl, rfl⟩)
end Go.Proofs.Ytpheiklhjelkcaa.X
/-
  Chapter 19: a queue in memory; what is read of it: walks of my own.
-/
namespace Go.Proofs.Ytpheiklhjelkcaa.X
open Go Go.RowKit
set_option linter.unusedVariables false
set_option linter.unusedSimpArgs false
/-- A queue; l: the block of its row. -/
structure Qs where
  r : Nat
  most : Int
  ca : Bool
  bg : Bool
  es : List En
  p : Option Addr
  c : Nat
  l : List Blk
def Qs.cells (x : Qs) : List Value := [.int .i64 x.most, .bool x.ca, .bool x.bg, .slice x.p x.es.length x.c]
def Qs.blks (x : Qs) : List Blk := (x.r, .cells x.cells.toArray 108 (0, 0)) :: x.l
def Qs.a (x : Qs) : List Ea := x.es.map En.a
theorem Qs.len_a (x : Qs) : x.a.length = x.es.length := List.length_map _
theorem Qs.get_a (x : Qs) (i : Nat) (h : i < x.es.length) : x.a[i]? = some (x.es[i].a) := by
  unfold Qs.a; rw [List.getElem?_map, List.getElem?_eq_getElem h]; rfl
/-- A queue that can be read. -/
structure QR (W : World) (L : List Blk) (x : Qs) : Prop where
  c0 : Cl W L x.r 0 (.int .i64 x.most)
  c1 : Cl W L x.r 1 (.bool x.ca)
  c2 : Cl W L x.r 2 (.bool x.bg)
  c3 : Cl W L x.r 3 (.slice x.p x.es.length x.c)
  rs : Rs W L x.p (x.es.flatMap En.enc)
theorem QR.mono {W : World} {L L' : List Blk} {x : Qs} (h : QR W L x) (hm : ∀ z, z ∈ L → z ∈ L') : QR W L' x := ⟨h.c0.mono hm, h.c1.mono hm, h.c2.mono hm, h.c3.mono hm, h.rs.mono hm⟩
/-- A queue that is its own; the rows of its entries' parts lie in M. -/
structure Qs.Ok (W : World) (M : List Blk) (x : Qs) : Prop where
  o : SlQ 17 45 (.slice x.p x.es.length x.c) x.es.length (x.es.flatMap En.enc) x.l
  at' : ∀ e, e ∈ x.es → e.i.f.At W M
  few : ∀ e, e ∈ x.es → e.i.f.Few
  len : x.es.length ≤ 1000000
theorem Qs.Ok.mono {W : World} {M M' : List Blk} {x : Qs} (h : x.Ok W M) (hm : ∀ z, z ∈ M → z ∈ M') : x.Ok W M' := ⟨h.o, fun e he => (h.at' e he).mono hm, h.few, h.len⟩
theorem Qs.Ok.qr {W : World} {M L : List Blk} {x : Qs} (h : x.Ok W M) (hm : ∀ z, z ∈ x.blks → z ∈ L) : QR W L x := by
  have h0 : (x.r, Obj.cells x.cells.toArray 108 (0, 0)) ∈ L := hm _ (List.mem_cons_self ..)
  exact ⟨Cl.own h0 rfl, Cl.own h0 rfl, Cl.own h0 rfl, Cl.own h0 rfl, h.o.rs fun z hz => hm z (List.mem_cons_of_mem _ hz)⟩
theorem QR.el {W : World} {L : List Blk} {x : Qs} (h : QR W L x) {i : Nat} (hi : i < x.es.length) : ∃ b o, x.p = some ⟨b, o, none⟩ ∧ ∀ (j : Nat) (u : Value), (x.es[i]).enc[j]? = some u → Cl W L b (o + (i : Int).toNat * 17 + j) u := by
  obtain ⟨b, o, hp, hc⟩ := h.rs.rows En.len (by decide) (by omega)
  exact ⟨b, o, hp, fun j u hj => hc i hi j u hj⟩
theorem xf_fresh {W : World} {L : List Blk} (x : Qs) (hx : QR W L x) (i : Nat) (hi : i < x.es.length) (r : Bool) (hr : freshA x.a x.bg i = r) : XF Try.prog W 50 #[.pointer (some ⟨x.r, 0, none⟩), .int .i64 i] L (fun v L' => v = .bool r ∧ L' = L) := by
  subst hr
  obtain ⟨b, o, hp, hc⟩ := hx.el hi
  have h3 := hx.c3
  have h2 := hx.c2
  rw [hp] at h3
  have hl := hc 2 _ rfl
  have hfa : freshA x.a x.bg i = (!(x.es[i]).i.lo && (decide (0 < i) || !x.bg)) := by
    unfold freshA; rw [x.get_a i hi]; rfl
  rw [hfa]
  refine xf_enter (args := [_, _]) Try.func50 rfl Try.ntmps50 rfl ?_
  focus
    refine xc_seq ?_
    refine xc_region ?_
    refine xo_rd (rd_assign rfl) rfl ?_
    refine xo_nil ?_
    refine xq_seq ?_
    refine xc_seq ?_
    refine xc_region ?_
    refine xo_rd (rd_move rfl) rfl ?_
    refine xo_rd (rd_nilCheck rfl) rfl ?_
    refine xo_rd (rd_fieldAddr rfl) rfl ?_
    refine xo_rd (rd_load1 rfl h3) rfl ?_
    refine xo_rd (rd_move rfl) rfl ?_
    refine xo_rd (rd_indexAddr rfl rfl (by omega) (by omega)) rfl ?_
    refine xo_rd (rd_fieldAddr rfl) rfl ?_
    refine xo_rd (rd_fieldAddr rfl) rfl ?_
    refine xo_rd (rd_load1 rfl hl) rfl ?_
    refine xo_rd (rd_not rfl) rfl ?_
    refine xo_rd (rd_move rfl) rfl ?_
    refine xo_split 15 rfl (fun hz1 => ?_) (fun hz1 => ?_)
    refine xo_grd rfl rfl (rd_move rfl) rfl ?_
    refine xo_grd rfl rfl (rd_gtr rfl rfl) rfl ?_
    refine xo_grd rfl rfl (rd_move rfl) rfl ?_
    refine xo_dec 18 rfl (fun hz2 => ?_) (fun hz2 => ?_)
    refine xo_gskip rfl rfl rfl rfl ?_
    refine xo_gskip rfl rfl rfl rfl ?_
    refine xo_gskip rfl rfl rfl rfl ?_
    refine xo_gskip rfl rfl rfl rfl ?_
    refine xo_gskip rfl rfl rfl rfl ?_
    refine xo_grd rfl rfl (rd_pickt rfl rfl) rfl ?_
    refine xo_rd (rd_pickt rfl rfl) rfl ?_
    refine xo_rd (rd_assign rfl) rfl ?_
    refine xo_nil ?_
    refine xq_seq ?_
    refine xc_ret ?_
    rotate_left
    refine xo_grd rfl rfl (rd_move rfl) rfl ?_
    refine xo_grd rfl rfl (rd_nilCheck rfl) rfl ?_
    refine xo_grd rfl rfl (rd_fieldAddr rfl) rfl ?_
    refine xo_grd rfl rfl (rd_load1 rfl h2) rfl ?_
    refine xo_grd rfl rfl (rd_not rfl) rfl ?_
    refine xo_grd rfl rfl (rd_pickf rfl rfl) rfl ?_
    refine xo_rd (rd_pickt rfl rfl) rfl ?_
    refine xo_rd (rd_assign rfl) rfl ?_
    refine xo_nil ?_
    refine xq_seq ?_
    refine xc_ret ?_
    rotate_left
    refine xo_gskip rfl rfl rfl rfl ?_
    refine xo_gskip rfl rfl rfl rfl ?_
    refine xo_gskip rfl rfl rfl rfl ?_
    refine xo_gskipU rfl rfl rfl ?_
    refine xo_gskipU rfl rfl rfl ?_
    refine xo_gskipU rfl rfl rfl ?_
    refine xo_gskipU rfl rfl rfl ?_
    refine xo_gskipU rfl rfl rfl ?_
    refine xo_gskip rfl rfl rfl rfl ?_
    refine xo_rd (rd_pickf rfl rfl) rfl ?_
    refine xo_rd (rd_assign rfl) rfl ?_
    refine xo_nil ?_
    refine xq_seq ?_
    refine xc_ret ?_
    rotate_left
  · have hz0 : 0 < i := by omega
    exact xq_ret1 (.inl rfl) Try.results50 rfl ⟨congrArg Value.bool (by simp_all), rfl⟩
  · have hz0 : ¬ 0 < i := by omega
    exact xq_ret1 (.inl rfl) Try.results50 rfl ⟨congrArg Value.bool (by simp_all), rfl⟩
  · exact xq_ret1 (.inl rfl) Try.results50 rfl ⟨congrArg Value.bool (by simp_all), rfl⟩
/-- Frames. -/
theorem xf_Frames {W : World} {L : List Blk} (x : Qs) (hx : QR W L x) (hn : x.es.length ≤ 1000000) : XF Try.prog W 25 #[.pointer (some ⟨x.r, 0, none⟩)] L (fun v L' => v = .int .i64 (framesA x.a) ∧ L' = L) := by
  have h3 := hx.c3
  refine xf_enter (args := [_]) Try.func25 rfl Try.ntmps25 rfl ?_
  focus
    refine xc_seq ?_
    refine xc_region ?_
    refine xo_rd (rd_assign rfl) rfl ?_
    refine xo_nil ?_
    refine xq_seq ?_
    refine xc_seq ?_
    refine xc_seq ?_
    refine xc_region ?_
    refine xo_rd (rd_move rfl) rfl ?_
    refine xo_rd (rd_eqnil rfl) rfl ?_
    refine xo_nil ?_
    refine xq_seq ?_
    refine xc_condf rfl ?_
    refine xc_skip ?_
    refine xq_seq ?_
    refine xc_seq ?_
    refine xc_seq ?_
    refine xc_region ?_
    refine xo_rd (rd_move rfl) rfl ?_
    refine xo_rd (rd_nilCheck rfl) rfl ?_
    refine xo_rd (rd_fieldAddr rfl) rfl ?_
    refine xo_rd (rd_load1 rfl h3) rfl ?_
    refine xo_rd (rd_len rfl) rfl ?_
    refine xo_rd (rd_move rfl) rfl ?_
    refine xo_nil ?_
    refine xq_seq ?_
    refine xc_block ?_
  refine xc_loopK (ι := Nat) (fun i => i ≤ x.es.length) (fun i => x.es.length - i) (fun i => [(0, .pointer (some ⟨x.r, 0, none⟩)), (2, .int .i64 (framesA (x.a.take i))), (10, .slice x.p x.es.length x.c), (11, .int .i64 x.es.length), (12, .int .i64 i)]) 0 (Nat.zero_le _) (by repeat (first | exact keep_nil | refine keep_cons rfl ?_)) ?_
  intro i hi
  by_cases hin : i < x.es.length
  · obtain ⟨b, o, hp, hc⟩ := hx.el hin
    rw [hp]
    have hfr := framesA_take x.a i (by rw [x.len_a]; exact hin)
    have hfl := framesA_le (x.a.take i)
    rw [List.length_take] at hfl
    have hlo : (x.a[i]'(by rw [x.len_a]; exact hin)).lo = (x.es[i]).i.lo := by unfold Qs.a; rw [List.getElem_map]; rfl
    rw [hlo] at hfr
    generalize x.es[i] = e at *
    focus
      refine xc_seq ?_
      refine xc_region ?_
      refine xo_rd (rd_lss rfl rfl) rfl ?_
      refine xo_nil ?_
      refine xq_seq ?_
      refine xc_seq ?_
      refine xc_dec rfl (fun hz1 => ?_) (fun hz1 => (by exfalso; omega))
      refine xc_skip ?_
      refine xq_seq ?_
      refine xc_seq ?_
      refine xc_block ?_
      refine xc_seq ?_
      refine xc_region ?_
      refine xo_rd (rd_indexAddr rfl rfl (by omega) (by omega)) rfl ?_
      refine xo_rd (rd_loadA (vs := e.enc) rfl rfl hc) rfl ?_
      refine xo_ef rfl (ef_alloc fun r4 => ?_)
      refine xo_ef rfl (ef_storeB [] _ rfl rfl (by first | rfl | assumption) rfl rfl rfl ?_)
      refine xo_nil ?_
      refine xq_seq ?_
      refine xc_seq ?_
      refine xc_region ?_
      refine xo_rd (rd_fieldAddr rfl) rfl ?_
      refine xo_rd (rd_fieldAddr rfl) rfl ?_
      refine xo_rd (rd_load1 rfl (Cl.o0 rfl)) rfl ?_
      refine xo_rd (rd_not rfl) rfl ?_
      refine xo_nil ?_
      refine xq_seq ?_
      refine xc_cond rfl (fun hz2 => ?_) (fun hz2 => ?_)
      refine xc_region ?_
      refine xo_rd (rd_move rfl) rfl ?_
      refine xo_rd (rd_addn rfl rfl (by omega) (by omega)) rfl ?_
      refine xo_rd (rd_assign rfl) rfl ?_
      refine xo_nil ?_
      refine xq_block ?_
      refine xq_seq ?_
      refine xc_region ?_
      refine xo_rd (rd_addn rfl rfl (by omega) (by omega)) rfl ?_
      refine xo_rd (rd_move rfl) rfl ?_
      refine xo_nil ?_
      rotate_left
      refine xc_skip ?_
      refine xq_block ?_
      refine xq_seq ?_
      refine xc_region ?_
      refine xo_rd (rd_addn rfl rfl (by omega) (by omega)) rfl ?_
      refine xo_rd (rd_move rfl) rfl ?_
      refine xo_nil ?_
      rotate_left
    · refine xq_roundK rfl (i + 1) (by omega) (by omega) (List.sublist_append_right [_] _) (by
        have hz' : e.i.lo = false := by simpa using hz2
        rw [hfr, hz']
        exact (by repeat (first | exact keep_nil | refine keep_cons rfl ?_)))
    · refine xq_roundK rfl (i + 1) (by omega) (by omega) (List.sublist_append_right [_] _) (by
        have hz' : e.i.lo = true := by simpa using hz2
        rw [hfr, hz']
        exact (by repeat (first | exact keep_nil | refine keep_cons rfl ?_)))
  · focus
      refine xc_seq ?_
      refine xc_region ?_
      refine xo_rd (rd_lss rfl rfl) rfl ?_
      refine xo_nil ?_
      refine xq_seq ?_
      refine xc_seq ?_
      refine xc_dec rfl (fun h1 => (by exfalso; omega)) (fun h1 => ?_)
      refine xc_exit ?_
      refine xq_then_exit ?_
      refine xq_then_exit ?_
      refine xq_block_hit ?_
      refine xq_seq ?_
      refine xc_seq ?_
      refine xc_region ?_
      refine xo_rd (rd_move rfl) rfl ?_
      refine xo_rd (rd_assign rfl) rfl ?_
      refine xo_nil ?_
      refine xq_seq ?_
      refine xc_ret ?_
    refine xq_ret1 (.inl rfl) Try.results25 rfl ⟨?_, rfl⟩
    rw [List.take_of_length_le (by rw [x.len_a]; omega)]
/-- latest. -/
theorem xf_latest {W : World} {L : List Blk} (x : Qs) (hx : QR W L x) (hn : x.es.length ≤ 1000000) : XF Try.prog W 81 #[.pointer (some ⟨x.r, 0, none⟩)] L (fun v L' => v = .int .u64 (latA x.a) ∧ L' = L) := by
  have h3 := hx.c3
  refine xf_enter (args := [_]) Try.func81 rfl Try.ntmps81 rfl ?_
  focus
    refine xc_seq ?_
    refine xc_region ?_
    refine xo_rd (rd_assign rfl) rfl ?_
    refine xo_nil ?_
    refine xq_seq ?_
    refine xc_seq ?_
    refine xc_seq ?_
    refine xc_region ?_
    refine xo_rd (rd_move rfl) rfl ?_
    refine xo_rd (rd_nilCheck rfl) rfl ?_
    refine xo_rd (rd_fieldAddr rfl) rfl ?_
    refine xo_rd (rd_load1 rfl h3) rfl ?_
    refine xo_rd (rd_len rfl) rfl ?_
    refine xo_rd (rd_move rfl) rfl ?_
    refine xo_nil ?_
    refine xq_seq ?_
    refine xc_block ?_
  refine xc_loopK (ι := Nat) (fun i => i ≤ x.es.length) (fun i => x.es.length - i) (fun i => [(0, .pointer (some ⟨x.r, 0, none⟩)), (2, .int .u64 (latA (x.a.take i))), (8, .slice x.p x.es.length x.c), (9, .int .i64 x.es.length), (10, .int .i64 i)]) 0 (Nat.zero_le _) (by repeat (first | exact keep_nil | refine keep_cons rfl ?_)) ?_
  intro i hi
  by_cases hin : i < x.es.length
  · obtain ⟨b, o, hp, hc⟩ := hx.el hin
    rw [hp]
    have hfr := latA_take x.a i (by rw [x.len_a]; exact hin)
    have hlo : x.a[i]'(by rw [x.len_a]; exact hin) = (x.es[i]).a := by unfold Qs.a; rw [List.getElem_map]
    rw [hlo] at hfr
    generalize x.es[i] = e at *
    focus
      refine xc_seq ?_
      refine xc_region ?_
      refine xo_rd (rd_lss rfl rfl) rfl ?_
      refine xo_nil ?_
      refine xq_seq ?_
      refine xc_seq ?_
      refine xc_dec rfl (fun hz1 => ?_) (fun hz1 => (by exfalso; omega))
      refine xc_skip ?_
      refine xq_seq ?_
      refine xc_seq ?_
      refine xc_block ?_
      refine xc_seq ?_
      refine xc_region ?_
      refine xo_rd (rd_indexAddr rfl rfl (by omega) (by omega)) rfl ?_
      refine xo_rd (rd_loadA (vs := e.enc) rfl rfl hc) rfl ?_
      refine xo_ef rfl (ef_alloc fun r4 => ?_)
      refine xo_ef rfl (ef_storeB [] _ rfl rfl (by first | rfl | assumption) rfl rfl rfl ?_)
      refine xo_nil ?_
      refine xq_seq ?_
      refine xc_seq ?_
      refine xc_region ?_
      refine xo_rd (rd_fieldAddr rfl) rfl ?_
      refine xo_rd (rd_fieldAddr rfl) rfl ?_
      refine xo_rd (rd_load1 rfl (Cl.o0 rfl)) rfl ?_
      refine xo_rd (rd_not rfl) rfl ?_
      refine xo_nil ?_
      refine xq_seq ?_
      refine xc_cond rfl (fun hz2 => ?_) (fun hz2 => ?_)
      refine xc_region ?_
      refine xo_rd (rd_move rfl) rfl ?_
      refine xo_rd (rd_fieldAddr rfl) rfl ?_
      refine xo_rd (rd_load1 rfl (Cl.o0 rfl)) rfl ?_
      refine xo_rd (rd_max rfl rfl) rfl ?_
      refine xo_rd (rd_assign rfl) rfl ?_
      refine xo_nil ?_
      refine xq_block ?_
      refine xq_seq ?_
      refine xc_region ?_
      refine xo_rd (rd_addn rfl rfl (by omega) (by omega)) rfl ?_
      refine xo_rd (rd_move rfl) rfl ?_
      refine xo_nil ?_
      rotate_left
      refine xc_skip ?_
      refine xq_block ?_
      refine xq_seq ?_
      refine xc_region ?_
      refine xo_rd (rd_addn rfl rfl (by omega) (by omega)) rfl ?_
      refine xo_rd (rd_move rfl) rfl ?_
      refine xo_nil ?_
      rotate_left
    · refine xq_roundK rfl (i + 1) (by omega) (by omega) (List.sublist_append_right [_] _) (by
        have hz' : e.i.lo = false := by simpa using hz2
        rw [hfr]
        unfold latS En.a
        dsimp only
        rw [hz']
        exact (by repeat (first | exact keep_nil | refine keep_cons rfl ?_)))
    · refine xq_roundK rfl (i + 1) (by omega) (by omega) (List.sublist_append_right [_] _) (by
        have hz' : e.i.lo = true := by simpa using hz2
        rw [hfr]
        unfold latS En.a
        dsimp only
        rw [hz']
        exact (by repeat (first | exact keep_nil | refine keep_cons rfl ?_)))
  · focus
      refine xc_seq ?_
      refine xc_region ?_
      refine xo_rd (rd_lss rfl rfl) rfl ?_
      refine xo_nil ?_
      refine xq_seq ?_
      refine xc_seq ?_
      refine xc_dec rfl (fun h1 => (by exfalso; omega)) (fun h1 => ?_)
      refine xc_exit ?_
      refine xq_then_exit ?_
      refine xq_then_exit ?_
      refine xq_block_hit ?_
      refine xq_seq ?_
      refine xc_seq ?_
      refine xc_region ?_
      refine xo_rd (rd_move rfl) rfl ?_
      refine xo_rd (rd_assign rfl) rfl ?_
      refine xo_nil ?_
      refine xq_seq ?_
      refine xc_ret ?_
    refine xq_ret1 (.inl rfl) Try.results81 rfl ⟨?_, rfl⟩
    rw [List.take_of_length_le (by rw [x.len_a]; omega)]
end Go.Proofs.Ytpheiklhjelkcaa.X
/-
  Chapter 19: the key that is kept, the frame that is evicted, what a queue has: walks of my own.
-/
namespace Go.Proofs.Ytpheiklhjelkcaa.X
open Go Go.RowKit
set_option linter.unusedVariables false
set_option linter.unusedSimpArgs false
theorem Qs.el_a (x : Qs) (i : Nat) (h : i < x.es.length) : x.a[i]'(by rw [x.len_a]; exact h) = (x.es[i]).a := by unfold Qs.a; rw [List.getElem_map]
theorem xf_kept {W : World} {L : List Blk} (x : Qs) (hx : QR W L x) (hn : x.es.length ≤ 1000000) : XF Try.prog W 79 #[.pointer (some ⟨x.r, 0, none⟩)] L (fun v L' => v = .int .i64 (keptA x.ca x.bg x.a) ∧ L' = L) := by
  have h3 := hx.c3
  have h1 := hx.c1
  refine xf_enter (args := [_]) Try.func79 rfl Try.ntmps79 rfl ?_
  focus
    refine xc_seq ?_
    refine xc_region ?_
    refine xo_rd (rd_assign rfl) rfl ?_
    refine xo_nil ?_
    refine xq_seq ?_
    refine xc_seq ?_
    refine xc_region ?_
    refine xo_rd (rd_move rfl) rfl ?_
    refine xo_ef rfl (ef_call rfl (XF.mono (xf_latest x hx hn) ?_))
    rintro v L' ⟨rfl, rfl⟩
    refine xo_rd (rd_assign rfl) rfl ?_
    refine xo_nil ?_
    refine xq_seq ?_
    refine xc_seq ?_
    refine xc_seq ?_
    refine xc_region ?_
    refine xo_rd (rd_move rfl) rfl ?_
    refine xo_rd (rd_nilCheck rfl) rfl ?_
    refine xo_rd (rd_fieldAddr rfl) rfl ?_
    refine xo_rd (rd_load1 rfl h3) rfl ?_
    refine xo_rd (rd_len rfl) rfl ?_
    refine xo_rd (rd_move rfl) rfl ?_
    refine xo_nil ?_
    refine xq_seq ?_
    refine xc_block ?_
  refine xc_loopK (ι := Nat) (fun i => i ≤ x.es.length ∧ ∀ j, j < i → keyA x.ca x.bg x.a j = false) (fun i => x.es.length - i) (fun i => [(0, .pointer (some ⟨x.r, 0, none⟩)), (3, .int .u64 (latA x.a)), (11, .slice x.p x.es.length x.c), (12, .int .i64 x.es.length), (13, .int .i64 i)]) 0 ⟨Nat.zero_le _, fun j h => absurd h (Nat.not_lt_zero _)⟩ (by repeat (first | exact keep_nil | refine keep_cons rfl ?_)) ?_
  rintro i ⟨hi, hno⟩
  by_cases hin : i < x.es.length
  · obtain ⟨b, o, hp, hc⟩ := hx.el hin
    rw [hp]
    obtain ⟨sf, hsf⟩ : ∃ r, freshA x.a x.bg i = r := ⟨_, rfl⟩
    have hk : keyA x.ca x.bg x.a i = (x.ca && sf && ((x.es[i]).i.f.k && decide ((x.es[i]).g = latA x.a))) := by
      unfold keyA; rw [hsf, x.get_a i hin]; rfl
    generalize x.es[i] = e at *
    focus
      refine xc_seq ?_
      refine xc_region ?_
      refine xo_rd (rd_lss rfl rfl) rfl ?_
      refine xo_nil ?_
      refine xq_seq ?_
      refine xc_seq ?_
      refine xc_dec rfl (fun hz1 => ?_) (fun hz1 => (by exfalso; omega))
      refine xc_skip ?_
      refine xq_seq ?_
      refine xc_seq ?_
      refine xc_block ?_
      refine xc_seq ?_
      refine xc_region ?_
      refine xo_rd (rd_move rfl) rfl ?_
      refine xo_rd (rd_indexAddr rfl rfl (by omega) (by omega)) rfl ?_
      refine xo_rd (rd_loadA (vs := e.enc) rfl rfl hc) rfl ?_
      refine xo_ef rfl (ef_alloc fun r5 => ?_)
      refine xo_rd (rd_assign rfl) rfl ?_
      refine xo_ef rfl (ef_storeB [] _ rfl rfl (by first | rfl | assumption) rfl rfl rfl ?_)
      refine xo_nil ?_
      refine xq_seq ?_
      refine xc_seq ?_
      refine xc_region ?_
      refine xo_rd (rd_move rfl) rfl ?_
      refine xo_rd (rd_nilCheck rfl) rfl ?_
      refine xo_rd (rd_fieldAddr rfl) rfl ?_
      refine xo_rd (rd_load1 rfl h1.skip) rfl ?_
      refine xo_rd (rd_move rfl) rfl ?_
      refine xo_split 22 rfl (fun hz2 => ?_) (fun hz2 => ?_)
      refine xo_grd rfl rfl (rd_move rfl) rfl ?_
      refine xo_grd rfl rfl (rd_move rfl) rfl ?_
      refine xo_gef rfl rfl rfl (ef_call rfl (XF.mono ((xf_fresh x (hx.mono (by intro z hz; simp [hz])) i hin sf hsf)) ?_))
      rintro v L' ⟨rfl, rfl⟩
      refine xo_rd (rd_pickt rfl rfl) rfl ?_
      refine xo_rd (rd_move rfl) rfl ?_
      refine xo_split 27 rfl (fun hz3 => ?_) (fun hz3 => ?_)
      refine xo_grd rfl rfl (rd_fieldAddr rfl) rfl ?_
      refine xo_grd rfl rfl (rd_fieldAddr rfl) rfl ?_
      refine xo_grd rfl rfl (rd_fieldAddr rfl) rfl ?_
      refine xo_grd rfl rfl (rd_load1 rfl (Cl.o0 rfl)) rfl ?_
      refine xo_rd (rd_pickt rfl rfl) rfl ?_
      refine xo_rd (rd_move rfl) rfl ?_
      refine xo_split 33 rfl (fun hz4 => ?_) (fun hz4 => ?_)
      refine xo_grd rfl rfl (rd_fieldAddr rfl) rfl ?_
      refine xo_grd rfl rfl (rd_load1 rfl (Cl.o0 rfl)) rfl ?_
      refine xo_grd rfl rfl (rd_move rfl) rfl ?_
      refine xo_grd rfl rfl (rd_eql rfl rfl) rfl ?_
      refine xo_rd (rd_pickt rfl rfl) rfl ?_
      refine xo_nil ?_
      refine xq_seq ?_
      refine xc_dec rfl (fun hz5 => ?_) (fun hz5 => ?_)
      refine xc_seq ?_
      refine xc_region ?_
      refine xo_rd (rd_move rfl) rfl ?_
      refine xo_rd (rd_assign rfl) rfl ?_
      refine xo_nil ?_
      refine xq_seq ?_
      refine xc_ret ?_
      refine xq_block_ret ?_
      refine xq_then_ret ?_
      refine xq_then_ret ?_
      refine xq_block_ret ?_
      refine xq_then_ret ?_
      rotate_left
      refine xc_skip ?_
      refine xq_block ?_
      refine xq_seq ?_
      refine xc_region ?_
      refine xo_rd (rd_addn rfl rfl (by omega) (by omega)) rfl ?_
      refine xo_rd (rd_move rfl) rfl ?_
      refine xo_nil ?_
      rotate_left
      refine xo_gskip rfl rfl rfl rfl ?_
      refine xo_gskip rfl rfl rfl rfl ?_
      refine xo_gskip rfl rfl rfl rfl ?_
      refine xo_gskip rfl rfl rfl rfl ?_
      refine xo_rd (rd_pickf rfl rfl) rfl ?_
      refine xo_nil ?_
      refine xq_seq ?_
      refine xc_condf rfl ?_
      refine xc_skip ?_
      refine xq_block ?_
      refine xq_seq ?_
      refine xc_region ?_
      refine xo_rd (rd_addn rfl rfl (by omega) (by omega)) rfl ?_
      refine xo_rd (rd_move rfl) rfl ?_
      refine xo_nil ?_
      rotate_left
      refine xo_gskip rfl rfl rfl rfl ?_
      refine xo_gskip rfl rfl rfl rfl ?_
      refine xo_gskip rfl rfl rfl rfl ?_
      refine xo_gskip rfl rfl rfl rfl ?_
      refine xo_rd (rd_pickf rfl rfl) rfl ?_
      refine xo_rd (rd_move rfl) rfl ?_
      refine xo_gskip rfl rfl rfl rfl ?_
      refine xo_gskip rfl rfl rfl rfl ?_
      refine xo_gskip rfl rfl rfl rfl ?_
      refine xo_gskip rfl rfl rfl rfl ?_
      refine xo_rd (rd_pickf rfl rfl) rfl ?_
      refine xo_nil ?_
      refine xq_seq ?_
      refine xc_condf rfl ?_
      refine xc_skip ?_
      refine xq_block ?_
      refine xq_seq ?_
      refine xc_region ?_
      refine xo_rd (rd_addn rfl rfl (by omega) (by omega)) rfl ?_
      refine xo_rd (rd_move rfl) rfl ?_
      refine xo_nil ?_
      rotate_left
      refine xo_gskip rfl rfl rfl rfl ?_
      refine xo_gskip rfl rfl rfl rfl ?_
      refine xo_gskip rfl rfl rfl rfl ?_
      refine xo_rd (rd_pickf rfl rfl) rfl ?_
      refine xo_rd (rd_move rfl) rfl ?_
      refine xo_gskip rfl rfl rfl rfl ?_
      refine xo_gskip rfl rfl rfl rfl ?_
      refine xo_gskip rfl rfl rfl rfl ?_
      refine xo_gskip rfl rfl rfl rfl ?_
      refine xo_rd (rd_pickf rfl rfl) rfl ?_
      refine xo_rd (rd_move rfl) rfl ?_
      refine xo_gskip rfl rfl rfl rfl ?_
      refine xo_gskip rfl rfl rfl rfl ?_
      refine xo_gskip rfl rfl rfl rfl ?_
      refine xo_gskip rfl rfl rfl rfl ?_
      refine xo_rd (rd_pickf rfl rfl) rfl ?_
      refine xo_nil ?_
      refine xq_seq ?_
      refine xc_condf rfl ?_
      refine xc_skip ?_
      refine xq_block ?_
      refine xq_seq ?_
      refine xc_region ?_
      refine xo_rd (rd_addn rfl rfl (by omega) (by omega)) rfl ?_
      refine xo_rd (rd_move rfl) rfl ?_
      refine xo_nil ?_
      rotate_left
    · refine xq_sub (List.sublist_append_right [_] _) (xq_ret1 (.inl rfl) Try.results79 rfl ⟨?_, rfl⟩)
      unfold keptA
      rw [first_hit (k := i) (by rw [x.len_a]; exact hin) (by rw [hk, hz2, hz3, hz4, decide_eq_true hz5]; rfl) hno]
    all_goals
      refine xq_roundK rfl (i + 1) ⟨by omega, fun j hj => ?_⟩ (by omega) (List.sublist_append_right [_] _) (by repeat (first | exact keep_nil | refine keep_cons rfl ?_))
      rcases Nat.lt_or_ge j i with h | h
      · exact hno j h
      · have hji : j = i := by omega
        rw [hji, hk]
        simp_all
  · skip
    focus
      refine xc_seq ?_
      refine xc_region ?_
      refine xo_rd (rd_lss rfl rfl) rfl ?_
      refine xo_nil ?_
      refine xq_seq ?_
      refine xc_seq ?_
      refine xc_dec rfl (fun h1 => (by exfalso; omega)) (fun h1 => ?_)
      refine xc_exit ?_
      refine xq_then_exit ?_
      refine xq_then_exit ?_
      refine xq_block_hit ?_
      refine xq_seq ?_
      refine xc_seq ?_
      refine xc_region ?_
      refine xo_rd (rd_move rfl) rfl ?_
      refine xo_rd (rd_nilCheck rfl) rfl ?_
      refine xo_rd (rd_fieldAddr rfl) rfl ?_
      refine xo_rd (rd_load1 rfl h3) rfl ?_
      refine xo_rd (rd_len rfl) rfl ?_
      refine xo_rd (rd_assign rfl) rfl ?_
      refine xo_nil ?_
      refine xq_seq ?_
      refine xc_ret ?_
    refine xq_ret1 (.inl rfl) Try.results79 rfl ⟨?_, rfl⟩
    unfold keptA
    rw [first_miss (by rw [x.len_a]; exact fun j hj => hno j (by omega)), x.len_a]
/-- Has. -/
def hasB (l : List Ea) (bg : Bool) (g : Int) (key : Bool) : Bool := (List.range l.length).any (hasA l bg g key)
theorem hasB_true {l : List Ea} {bg : Bool} {g : Int} {key : Bool} {i : Nat} (hi : i < l.length) (h : hasA l bg g key i = true) : hasB l bg g key = true := by
  unfold hasB; rw [List.any_eq_true]; exact ⟨i, List.mem_range.2 hi, h⟩
theorem hasB_false {l : List Ea} {bg : Bool} {g : Int} {key : Bool} (h : ∀ i, i < l.length → hasA l bg g key i = false) : hasB l bg g key = false := by
  unfold hasB; rw [List.any_eq_false]; intro i hi; rw [h i (List.mem_range.1 hi)]; decide
theorem xf_Has {W : World} {L : List Blk} (x : Qs) (hx : QR W L x) (hn : x.es.length ≤ 1000000) (g : Int) (key : Bool) : XF Try.prog W 27 #[.pointer (some ⟨x.r, 0, none⟩), .int .u64 g, .bool key] L (fun v L' => v = .bool (hasB x.a x.bg g key) ∧ L' = L) := by
  have h3 := hx.c3
  refine xf_enter (args := [_, _, _]) Try.func27 rfl Try.ntmps27 rfl ?_
  focus
    refine xc_seq ?_
    refine xc_region ?_
    refine xo_rd (rd_assign rfl) rfl ?_
    refine xo_nil ?_
    refine xq_seq ?_
    refine xc_seq ?_
    refine xc_seq ?_
    refine xc_region ?_
    refine xo_rd (rd_move rfl) rfl ?_
    refine xo_rd (rd_eqnil rfl) rfl ?_
    refine xo_nil ?_
    refine xq_seq ?_
    refine xc_condf rfl ?_
    refine xc_skip ?_
    refine xq_seq ?_
    refine xc_seq ?_
    refine xc_seq ?_
    refine xc_region ?_
    refine xo_rd (rd_move rfl) rfl ?_
    refine xo_rd (rd_nilCheck rfl) rfl ?_
    refine xo_rd (rd_fieldAddr rfl) rfl ?_
    refine xo_rd (rd_load1 rfl h3) rfl ?_
    refine xo_rd (rd_len rfl) rfl ?_
    refine xo_rd (rd_move rfl) rfl ?_
    refine xo_nil ?_
    refine xq_seq ?_
    refine xc_block ?_
  refine xc_loopK (ι := Nat) (fun i => i ≤ x.es.length ∧ ∀ j, j < i → hasA x.a x.bg g key j = false) (fun i => x.es.length - i) (fun i => [(0, .pointer (some ⟨x.r, 0, none⟩)), (1, .int .u64 g), (2, .bool key), (14, .slice x.p x.es.length x.c), (15, .int .i64 x.es.length), (16, .int .i64 i)]) 0 ⟨Nat.zero_le _, fun j h => absurd h (Nat.not_lt_zero _)⟩ (by repeat (first | exact keep_nil | refine keep_cons rfl ?_)) ?_
  rintro i ⟨hi, hno⟩
  by_cases hin : i < x.es.length
  · obtain ⟨b, o, hp, hc⟩ := hx.el hin
    rw [hp]
    obtain ⟨sf, hsf⟩ : ∃ r, freshA x.a x.bg i = r := ⟨_, rfl⟩
    have hk : hasA x.a x.bg g key i = (sf && (decide ((x.es[i]).g = g) && (!key || (x.es[i]).i.f.k))) := by
      unfold hasA; rw [hsf, x.get_a i hin]; rfl
    generalize x.es[i] = e at *
    focus
      refine xc_seq ?_
      refine xc_region ?_
      refine xo_rd (rd_lss rfl rfl) rfl ?_
      refine xo_nil ?_
      refine xq_seq ?_
      refine xc_seq ?_
      refine xc_dec rfl (fun hz1 => ?_) (fun hz1 => (by exfalso; omega))
      refine xc_skip ?_
      refine xq_seq ?_
      refine xc_seq ?_
      refine xc_block ?_
      refine xc_seq ?_
      refine xc_region ?_
      refine xo_rd (rd_move rfl) rfl ?_
      refine xo_rd (rd_indexAddr rfl rfl (by omega) (by omega)) rfl ?_
      refine xo_rd (rd_loadA (vs := e.enc) rfl rfl hc) rfl ?_
      refine xo_ef rfl (ef_alloc fun r8 => ?_)
      refine xo_rd (rd_assign rfl) rfl ?_
      refine xo_ef rfl (ef_storeB [] _ rfl rfl (by first | rfl | assumption) rfl rfl rfl ?_)
      refine xo_nil ?_
      refine xq_seq ?_
      refine xc_seq ?_
      refine xc_region ?_
      refine xo_rd (rd_move rfl) rfl ?_
      refine xo_rd (rd_move rfl) rfl ?_
      refine xo_ef rfl (ef_call rfl (XF.mono ((xf_fresh x (hx.mono (by intro z hz; simp [hz])) i hin sf hsf)) ?_))
      rintro v L' ⟨rfl, rfl⟩
      refine xo_rd (rd_move rfl) rfl ?_
      refine xo_split 24 rfl (fun hz2 => ?_) (fun hz2 => ?_)
      refine xo_grd rfl rfl (rd_fieldAddr rfl) rfl ?_
      refine xo_grd rfl rfl (rd_load1 rfl (Cl.o0 rfl)) rfl ?_
      refine xo_grd rfl rfl (rd_move rfl) rfl ?_
      refine xo_grd rfl rfl (rd_eql rfl rfl) rfl ?_
      refine xo_rd (rd_pickt rfl rfl) rfl ?_
      refine xo_rd (rd_move rfl) rfl ?_
      refine xo_dec 30 rfl (fun hz3 => ?_) (fun hz3 => ?_)
      refine xo_grd rfl rfl (rd_move rfl) rfl ?_
      refine xo_grd rfl rfl (rd_not rfl) rfl ?_
      refine xo_grd rfl rfl (rd_move rfl) rfl ?_
      refine xo_split 33 rfl (fun hz4 => ?_) (fun hz4 => ?_)
      refine xo_gskip rfl rfl rfl rfl ?_
      refine xo_gskip rfl rfl rfl rfl ?_
      refine xo_gskip rfl rfl rfl rfl ?_
      refine xo_gskip rfl rfl rfl rfl ?_
      refine xo_grd rfl rfl (rd_pickt rfl rfl) rfl ?_
      refine xo_rd (rd_pickt rfl rfl) rfl ?_
      refine xo_nil ?_
      refine xq_seq ?_
      refine xc_condt rfl ?_
      refine xc_seq ?_
      refine xc_region ?_
      refine xo_rd (rd_assign rfl) rfl ?_
      refine xo_nil ?_
      refine xq_seq ?_
      refine xc_ret ?_
      refine xq_block_ret ?_
      refine xq_then_ret ?_
      refine xq_then_ret ?_
      refine xq_block_ret ?_
      refine xq_then_ret ?_
      rotate_left
      refine xo_grd rfl rfl (rd_fieldAddr rfl) rfl ?_
      refine xo_grd rfl rfl (rd_fieldAddr rfl) rfl ?_
      refine xo_grd rfl rfl (rd_fieldAddr rfl) rfl ?_
      refine xo_grd rfl rfl (rd_load1 rfl (Cl.o0 rfl)) rfl ?_
      refine xo_grd rfl rfl (rd_pickf rfl rfl) rfl ?_
      refine xo_rd (rd_pickt rfl rfl) rfl ?_
      refine xo_nil ?_
      refine xq_seq ?_
      refine xc_cond rfl (fun hz5 => ?_) (fun hz5 => ?_)
      refine xc_seq ?_
      refine xc_region ?_
      refine xo_rd (rd_assign rfl) rfl ?_
      refine xo_nil ?_
      refine xq_seq ?_
      refine xc_ret ?_
      refine xq_block_ret ?_
      refine xq_then_ret ?_
      refine xq_then_ret ?_
      refine xq_block_ret ?_
      refine xq_then_ret ?_
      rotate_left
      refine xc_skip ?_
      refine xq_block ?_
      refine xq_seq ?_
      refine xc_region ?_
      refine xo_rd (rd_addn rfl rfl (by omega) (by omega)) rfl ?_
      refine xo_rd (rd_move rfl) rfl ?_
      refine xo_nil ?_
      rotate_left
      refine xo_gskip rfl rfl rfl rfl ?_
      refine xo_gskip rfl rfl rfl rfl ?_
      refine xo_gskip rfl rfl rfl rfl ?_
      refine xo_gskipU rfl rfl rfl ?_
      refine xo_gskipU rfl rfl rfl ?_
      refine xo_gskipU rfl rfl rfl ?_
      refine xo_gskipU rfl rfl rfl ?_
      refine xo_gskip rfl rfl rfl rfl ?_
      refine xo_rd (rd_pickf rfl rfl) rfl ?_
      refine xo_nil ?_
      refine xq_seq ?_
      refine xc_condf rfl ?_
      refine xc_skip ?_
      refine xq_block ?_
      refine xq_seq ?_
      refine xc_region ?_
      refine xo_rd (rd_addn rfl rfl (by omega) (by omega)) rfl ?_
      refine xo_rd (rd_move rfl) rfl ?_
      refine xo_nil ?_
      rotate_left
      refine xo_gskip rfl rfl rfl rfl ?_
      refine xo_gskip rfl rfl rfl rfl ?_
      refine xo_gskip rfl rfl rfl rfl ?_
      refine xo_gskip rfl rfl rfl rfl ?_
      refine xo_rd (rd_pickf rfl rfl) rfl ?_
      refine xo_rd (rd_move rfl) rfl ?_
      refine xo_gskip rfl rfl rfl rfl ?_
      refine xo_gskip rfl rfl rfl rfl ?_
      refine xo_gskip rfl rfl rfl rfl ?_
      refine xo_gskipU rfl rfl rfl ?_
      refine xo_gskipU rfl rfl rfl ?_
      refine xo_gskipU rfl rfl rfl ?_
      refine xo_gskipU rfl rfl rfl ?_
      refine xo_gskip rfl rfl rfl rfl ?_
      refine xo_rd (rd_pickf rfl rfl) rfl ?_
      refine xo_nil ?_
      refine xq_seq ?_
      refine xc_condf rfl ?_
      refine xc_skip ?_
      refine xq_block ?_
      refine xq_seq ?_
      refine xc_region ?_
      refine xo_rd (rd_addn rfl rfl (by omega) (by omega)) rfl ?_
      refine xo_rd (rd_move rfl) rfl ?_
      refine xo_nil ?_
      rotate_left
    all_goals first
      | exact xq_sub (List.sublist_append_right [_] _) (xq_ret1 (.inl rfl) Try.results27 rfl ⟨congrArg Value.bool (hasB_true (by rw [x.len_a]; exact hin) (by rw [hk]; simp_all)).symm, rfl⟩)
      | refine xq_roundK rfl (i + 1) ⟨by omega, fun j hj => ?_⟩ (by omega) (List.sublist_append_right [_] _) (by repeat (first | exact keep_nil | refine keep_cons rfl ?_))
        rcases Nat.lt_or_ge j i with h | h
        · exact hno j h
        · have hji : j = i := by omega
          rw [hji, hk]
          simp_all
  · skip
    focus
      refine xc_seq ?_
      refine xc_region ?_
      refine xo_rd (rd_lss rfl rfl) rfl ?_
      refine xo_nil ?_
      refine xq_seq ?_
      refine xc_seq ?_
      refine xc_dec rfl (fun h1 => (by exfalso; omega)) (fun h1 => ?_)
      refine xc_exit ?_
      refine xq_then_exit ?_
      refine xq_then_exit ?_
      refine xq_block_hit ?_
      refine xq_seq ?_
      refine xc_seq ?_
      refine xc_region ?_
      refine xo_rd (rd_assign rfl) rfl ?_
      refine xo_nil ?_
      refine xq_seq ?_
      refine xc_ret ?_
    refine xq_ret1 (.inl rfl) Try.results27 rfl ⟨congrArg Value.bool (hasB_false ?_).symm, rfl⟩
    rw [x.len_a]; exact fun j hj => hno j (by omega)
theorem xf_Begun {W : World} {L : List Blk} (x : Qs) (hx : QR W L x) : XF Try.prog W 24 #[.pointer (some ⟨x.r, 0, none⟩)] L (fun v L' => v = .bool x.bg ∧ L' = L) := by
  have h2 := hx.c2
  refine xf_enter (args := [_]) Try.func24 rfl Try.ntmps24 rfl ?_
  focus
    refine xc_seq ?_
    refine xc_region ?_
    refine xo_rd (rd_assign rfl) rfl ?_
    refine xo_nil ?_
    refine xq_seq ?_
    refine xc_seq ?_
    refine xc_region ?_
    refine xo_rd (rd_move rfl) rfl ?_
    refine xo_rd (rd_nenil rfl) rfl ?_
    refine xo_rd (rd_move rfl) rfl ?_
    refine xo_grd rfl rfl (rd_move rfl) rfl ?_
    refine xo_grd rfl rfl (rd_nilCheck rfl) rfl ?_
    refine xo_grd rfl rfl (rd_fieldAddr rfl) rfl ?_
    refine xo_grd rfl rfl (rd_load1 rfl h2) rfl ?_
    refine xo_rd (rd_pickt rfl rfl) rfl ?_
    refine xo_rd (rd_assign rfl) rfl ?_
    refine xo_nil ?_
    refine xq_seq ?_
    refine xc_ret ?_
  exact xq_ret1 (.inl rfl) Try.results24 rfl ⟨rfl, rfl⟩
/-- What victim asks of each. -/
theorem xf_ahead {W : World} {L : List Blk} (x : Qs) (hx : QR W L x) (i k : Nat) (hi : i < x.es.length) (rk rq : Nat) (hk : Cl W L rk 0 (.int .i64 k)) (hq : Cl W L rq 0 (.pointer (some ⟨x.r, 0, none⟩))) (r : Bool) (hr : (decide (i < k) && freshA x.a x.bg i) = r) :
    XF Try.prog W 80 #[.int .i64 i, .pointer (some ⟨rk, 0, none⟩), .pointer (some ⟨rq, 0, none⟩)] L (fun v L' => v = .bool r ∧ L' = L) := by
  subst hr
  refine xf_enter (args := [_, _, _]) Try.func80 rfl Try.ntmps80 rfl ?_
  focus
    refine xc_seq ?_
    refine xc_region ?_
    refine xo_rd (rd_assign rfl) rfl ?_
    refine xo_nil ?_
    refine xq_seq ?_
    refine xc_seq ?_
    refine xc_region ?_
    refine xo_rd (rd_move rfl) rfl ?_
    refine xo_rd (rd_load1 rfl hk) rfl ?_
    refine xo_rd (rd_lss rfl rfl) rfl ?_
    refine xo_rd (rd_move rfl) rfl ?_
    refine xo_dec 8 rfl (fun hz1 => ?_) (fun hz1 => ?_)
    refine xo_grd rfl rfl (rd_load1 rfl hq) rfl ?_
    refine xo_grd rfl rfl (rd_move rfl) rfl ?_
    refine xo_gef rfl rfl rfl (ef_call rfl (XF.mono (xf_fresh x hx i hi _ rfl) ?_))
    rintro v L' ⟨rfl, rfl⟩
    refine xo_rd (rd_pickt rfl rfl) rfl ?_
    refine xo_rd (rd_assign rfl) rfl ?_
    refine xo_nil ?_
    refine xq_seq ?_
    refine xc_ret ?_
    rotate_left
    refine xo_gskip rfl rfl rfl rfl ?_
    refine xo_gskip rfl rfl rfl rfl ?_
    refine xo_gskip rfl rfl rfl rfl ?_
    refine xo_rd (rd_pickf rfl rfl) rfl ?_
    refine xo_rd (rd_assign rfl) rfl ?_
    refine xo_nil ?_
    refine xq_seq ?_
    refine xc_ret ?_
    rotate_left
  · have hz0 : i < k := by omega
    exact xq_ret1 (.inl rfl) Try.results80 rfl ⟨by rw [decide_eq_true hz0]; rfl, rfl⟩
  · have hz0 : ¬ i < k := by omega
    exact xq_ret1 (.inl rfl) Try.results80 rfl ⟨by rw [decide_eq_false hz0]; rfl, rfl⟩
end Go.Proofs.Ytpheiklhjelkcaa.X
/-
  Chapter 19: the frame that is evicted; notes, and how two are one: walks of my own.
-/
namespace Go.Proofs.Ytpheiklhjelkcaa.X
open Go Go.RowKit
set_option linter.unusedVariables false
set_option linter.unusedSimpArgs false
theorem ef_callv0 {P : Program} {W : World} {n : Nat} {L : List Blk} {E : List (Nat × Value)} {d : Option Nat} {t : TypeId} {pos : String} {after : Array Edge} {g : Option (Nat × Bool)} {K : Value → List Blk → Prop} {f : Nat} {x : Operand} {args : List Operand} {ts : Array TypeId} {vs first cap : List Value} {r : Value} [hC : Cf P f] (hx : ev E x = some (.func (.func f) first.toArray cap.toArray)) (h : evs E args = some vs) (hf : XF P W f (first ++ vs ++ cap).toArray L (fun v L' => v = r ∧ L' = L)) (hk : K r L) :
    EF P W n L E ⟨d, .call ⟨.value x, args.toArray, ts⟩, t, pos, after, g⟩ K := ef_callv hx h (hf.mono fun v L' hv => by rw [hv.1, hv.2]; exact hk)
theorem xf_victim {W : World} {L : List Blk} (x : Qs) (hx : QR W L x) (hn : x.es.length ≤ 1000000) : XF Try.prog W 69 #[.pointer (some ⟨x.r, 0, none⟩)] L (fun v L' => v = .int .i64 (victimA x.ca x.bg x.a) ∧ L' = L) := by
  have h3 := hx.c3
  unfold victimA
  refine xf_enter (args := [_]) Try.func69 rfl Try.ntmps69 rfl ?_
  focus
    refine xc_seq ?_
    refine xc_region ?_
    refine xo_ef rfl (ef_box rfl fun r1 => ?_)
    refine xo_rd (rd_assign rfl) rfl ?_
    refine xo_nil ?_
    refine xq_seq ?_
    refine xc_seq ?_
    refine xc_region ?_
    refine xo_rd (rd_load1 rfl (Cl.o0 rfl)) rfl ?_
    refine xo_ef rfl (ef_call rfl (XF.mono (xf_kept x (hx.mono (by intro z hz; simp [hz])) hn) ?_))
    rintro v L' ⟨rfl, rfl⟩
    refine xo_ef rfl (ef_alloc fun r3 => ?_)
    refine xo_ef rfl (ef_store1 [] _ rfl rfl (by first | rfl | assumption) rfl rfl rfl ?_)
    refine xo_rd (rd_assign rfl) rfl ?_
    refine xo_nil ?_
    refine xq_seq ?_
    refine xc_seq ?_
    refine xc_region ?_
    refine xo_rd (rd_makeFunc rfl rfl) rfl ?_
    refine xo_rd (rd_assign rfl) rfl ?_
    refine xo_nil ?_
    refine xq_seq ?_
    refine xc_seq ?_
    refine xc_seq ?_
    refine xc_region ?_
    refine xo_rd (rd_load1 rfl (Cl.o1 rfl)) rfl ?_
    refine xo_rd (rd_nilCheck rfl) rfl ?_
    refine xo_rd (rd_fieldAddr rfl) rfl ?_
    refine xo_rd (rd_load1 rfl h3.skip.skip) rfl ?_
    refine xo_rd (rd_len rfl) rfl ?_
    refine xo_rd (rd_move rfl) rfl ?_
    refine xo_nil ?_
    refine xq_seq ?_
    refine xc_block ?_
  generalize hK : keptA x.ca x.bg x.a = k
  refine xc_loopI (ι := Nat) (fun i => i ≤ x.es.length ∧ ∀ j, j < i → (decide (j < k) && freshA x.a x.bg j) = false) (fun i => x.es.length - i) (fun _ => (r3, .cells #[.int .i64 k] 3 (0, 0)) :: (r1, .cells #[.pointer (some ⟨x.r, 0, none⟩)] 26 (0, 0)) :: L) (fun i => [(1, .pointer (some ⟨r1, 0, none⟩)), (3, .pointer (some ⟨r3, 0, none⟩)), (4, .int .i64 (lastI (fun j => decide (k < j) && freshA x.a x.bg j) i)), (5, .func (.func 80) #[] #[.pointer (some ⟨r3, 0, none⟩), .pointer (some ⟨r1, 0, none⟩)]), (13, .slice x.p x.es.length x.c), (14, .int .i64 x.es.length), (15, .int .i64 i)]) 0 ⟨Nat.zero_le _, fun j h => absurd h (Nat.not_lt_zero _)⟩ rfl (by repeat (first | exact keep_nil | refine keep_cons rfl ?_)) ?_
  rintro i ⟨hi, hno⟩
  by_cases hin : i < x.es.length
  · obtain ⟨b, o, hp, hc⟩ := hx.el hin
    rw [hp]
    obtain ⟨sf, hsf⟩ : ∃ r, (decide (i < k) && freshA x.a x.bg i) = r := ⟨_, rfl⟩
    obtain ⟨sg, hsg⟩ : ∃ r, freshA x.a x.bg i = r := ⟨_, rfl⟩
    have hlast : lastI (fun j => decide (k < j) && freshA x.a x.bg j) (i + 1) = if (decide (k < i) && sg) = true then (i : Int) else lastI (fun j => decide (k < j) && freshA x.a x.bg j) i := by rw [lastI, hsg]
    have hll := lastI_lt (fun j => decide (k < j) && freshA x.a x.bg j) i
    focus
      refine xc_seq ?_
      refine xc_region ?_
      refine xo_rd (rd_lss rfl rfl) rfl ?_
      refine xo_nil ?_
      refine xq_seq ?_
      refine xc_seq ?_
      refine xc_dec rfl (fun hz1 => ?_) (fun hz1 => (by exfalso; omega))
      refine xc_skip ?_
      refine xq_seq ?_
      refine xc_seq ?_
      refine xc_block ?_
      refine xc_seq ?_
      refine xc_region ?_
      refine xo_rd (rd_move rfl) rfl ?_
      refine xo_rd (rd_assign rfl) rfl ?_
      refine xo_nil ?_
      refine xq_seq ?_
      refine xc_seq ?_
      refine xc_seq ?_
      refine xc_region ?_
      refine xo_rd (rd_move rfl) rfl ?_
      refine xo_rd (rd_move rfl) rfl ?_
      refine xo_ef rfl (ef_callv0 (r := .bool sf) (vs := [.int .i64 i]) (first := []) (cap := [.pointer (some ⟨r3, 0, none⟩), .pointer (some ⟨r1, 0, none⟩)]) rfl rfl (xf_ahead x (hx.mono (by intro z hz; simp [hz])) i k hin r3 r1 (Cl.o0 rfl) (Cl.o1 rfl) sf hsf) ?_)
      refine xo_nil ?_
      refine xq_seq ?_
      refine xc_cond rfl (fun hz2 => ?_) (fun hz2 => ?_)
      refine xc_seq ?_
      refine xc_region ?_
      refine xo_rd (rd_move rfl) rfl ?_
      refine xo_rd (rd_assign rfl) rfl ?_
      refine xo_nil ?_
      refine xq_seq ?_
      refine xc_ret ?_
      refine xq_then_ret ?_
      refine xq_block_ret ?_
      refine xq_then_ret ?_
      refine xq_then_ret ?_
      refine xq_block_ret ?_
      refine xq_then_ret ?_
      rotate_left
      refine xc_skip ?_
      refine xq_seq ?_
      refine xc_seq ?_
      refine xc_region ?_
      refine xo_rd (rd_move rfl) rfl ?_
      refine xo_rd (rd_load1 rfl (Cl.o0 rfl)) rfl ?_
      refine xo_rd (rd_gtr rfl rfl) rfl ?_
      refine xo_rd (rd_move rfl) rfl ?_
      refine xo_dec 25 rfl (fun hz3 => ?_) (fun hz3 => ?_)
      refine xo_grd rfl rfl (rd_load1 rfl (Cl.o1 rfl)) rfl ?_
      refine xo_grd rfl rfl (rd_move rfl) rfl ?_
      refine xo_gef rfl rfl rfl (ef_call rfl (XF.mono (xf_fresh x (hx.mono (by intro z hz; simp [hz])) i hin sg hsg) ?_))
      rintro v L' ⟨rfl, rfl⟩
      refine xo_rd (rd_pickt rfl rfl) rfl ?_
      refine xo_nil ?_
      refine xq_seq ?_
      refine xc_cond rfl (fun hz4 => ?_) (fun hz4 => ?_)
      refine xc_region ?_
      refine xo_rd (rd_move rfl) rfl ?_
      refine xo_rd (rd_assign rfl) rfl ?_
      refine xo_nil ?_
      refine xq_block ?_
      refine xq_seq ?_
      refine xc_region ?_
      refine xo_rd (rd_addn rfl rfl (by omega) (by omega)) rfl ?_
      refine xo_rd (rd_move rfl) rfl ?_
      refine xo_nil ?_
      rotate_left
      refine xc_skip ?_
      refine xq_block ?_
      refine xq_seq ?_
      refine xc_region ?_
      refine xo_rd (rd_addn rfl rfl (by omega) (by omega)) rfl ?_
      refine xo_rd (rd_move rfl) rfl ?_
      refine xo_nil ?_
      rotate_left
      refine xo_gskip rfl rfl rfl rfl ?_
      refine xo_gskip rfl rfl rfl rfl ?_
      refine xo_gskip rfl rfl rfl rfl ?_
      refine xo_rd (rd_pickf rfl rfl) rfl ?_
      refine xo_nil ?_
      refine xq_seq ?_
      refine xc_condf rfl ?_
      refine xc_skip ?_
      refine xq_block ?_
      refine xq_seq ?_
      refine xc_region ?_
      refine xo_rd (rd_addn rfl rfl (by omega) (by omega)) rfl ?_
      refine xo_rd (rd_move rfl) rfl ?_
      refine xo_nil ?_
      rotate_left
    · rw [hz2] at hsf
      refine xq_sub (List.sublist_append_right [_, _] _) (xq_ret1 (.inl rfl) Try.results69 rfl ⟨?_, rfl⟩)
      unfold vicA
      have hf : first (fun j => decide (j < k) && freshA x.a x.bg j) x.a.length = i := first_hit (by rw [x.len_a]; exact hin) hsf hno
      dsimp only
      rw [hf, if_pos (by rw [x.len_a]; exact hin)]
    all_goals
      rw [hz2] at hsf
      refine xq_roundI (i + 1) ⟨by omega, fun j hj => ?_⟩ (by omega) rfl (by
        rw [hlast]
        first
          | rw [if_pos (by rw [hz4, decide_eq_true (by omega)]; rfl)]; exact (by repeat (first | exact keep_nil | refine keep_cons rfl ?_))
          | rw [if_neg (by rw [hz4]; simp)]; exact (by repeat (first | exact keep_nil | refine keep_cons rfl ?_))
          | rw [if_neg (by rw [decide_eq_false (by omega)]; simp)]; exact (by repeat (first | exact keep_nil | refine keep_cons rfl ?_)))
      rcases Nat.lt_or_ge j i with h | h
      · exact hno j h
      · have hji : j = i := by omega
        rw [hji]; exact hsf
  · skip
    focus
      refine xc_seq ?_
      refine xc_region ?_
      refine xo_rd (rd_lss rfl rfl) rfl ?_
      refine xo_nil ?_
      refine xq_seq ?_
      refine xc_seq ?_
      refine xc_dec rfl (fun h1 => (by exfalso; omega)) (fun h1 => ?_)
      refine xc_exit ?_
      refine xq_then_exit ?_
      refine xq_then_exit ?_
      refine xq_block_hit ?_
      refine xq_seq ?_
      refine xc_seq ?_
      refine xc_region ?_
      refine xo_rd (rd_move rfl) rfl ?_
      refine xo_rd (rd_assign rfl) rfl ?_
      refine xo_nil ?_
      refine xq_seq ?_
      refine xc_ret ?_
    have hiN : i = x.es.length := by omega
    subst hiN
    refine xq_sub (List.sublist_append_right [_, _] _) (xq_ret1 (.inl rfl) Try.results69 rfl ⟨?_, rfl⟩)
    unfold vicA
    have hf : first (fun j => decide (j < k) && freshA x.a x.bg j) x.a.length = x.a.length := first_miss (by rw [x.len_a]; exact hno)
    dsimp only
    rw [hf, if_neg (Nat.lt_irrefl _), x.len_a]
def zFr : Fr := ⟨zIf, false, [], none, 0, []⟩
def En.note (e : En) : En := ⟨e.g, e.s, ⟨true, true, e.i.f.i.ti, e.i.f.i.dr, zFr⟩⟩
theorem En.note_a (e : En) : e.note.a = e.a.note := rfl
theorem zFr_at {W : World} {L : List Blk} : zFr.At W L := ⟨Rs.nil, fun y h => by cases h⟩
theorem zFr_few : zFr.Few := ⟨by decide, fun y h => by cases h⟩
theorem xf_note {W : World} {L : List Blk} (e : En) : XF Try.prog W 70 #[.agg e.enc.toArray] L (fun v L' => v = .agg e.note.enc.toArray ∧ L' = L) := by
  refine xf_enter (args := [_]) Try.func70 rfl Try.ntmps70 rfl ?_
  focus
    refine xc_seq ?_
    refine xc_region ?_
    refine xo_ef rfl (ef_box rfl fun r1 => ?_)
    refine xo_ef rfl (ef_alloc fun r2 => ?_)
    refine xo_nil ?_
    refine xq_seq ?_
    refine xc_seq ?_
    refine xc_region ?_
    refine xo_rd (rd_fieldAddr rfl) rfl ?_
    refine xo_rd (rd_fieldAddr rfl) rfl ?_
    refine xo_rd (rd_fieldAddr rfl) rfl ?_
    refine xo_rd (rd_loadA (vs := e.i.f.i.enc) rfl rfl (cl_sub (b := r1) (vs := e.enc) (T := 45) (fr := (0, 0)) _ (by first | exact List.Mem.head _ | exact List.Mem.tail _ (List.Mem.head _) | exact List.Mem.tail _ (List.Mem.tail _ (List.Mem.head _)) | exact List.Mem.tail _ (List.Mem.tail _ (List.Mem.tail _ (List.Mem.head _))) | exact List.Mem.tail _ (List.Mem.tail _ (List.Mem.tail _ (List.Mem.tail _ (List.Mem.head _)))) | exact List.Mem.tail _ (List.Mem.tail _ (List.Mem.tail _ (List.Mem.tail _ (List.Mem.tail _ (List.Mem.head _))))) | exact List.Mem.tail _ (List.Mem.tail _ (List.Mem.tail _ (List.Mem.tail _ (List.Mem.tail _ (List.Mem.tail _ (List.Mem.head _)))))) | exact List.Mem.tail _ (List.Mem.tail _ (List.Mem.tail _ (List.Mem.tail _ (List.Mem.tail _ (List.Mem.tail _ (List.Mem.tail _ (List.Mem.head _)))))))) rfl)) rfl ?_
    refine xo_ef rfl (ef_alloc fun r3 => ?_)
    refine xo_ef rfl (ef_storeB [] _ rfl rfl (by first | rfl | assumption) rfl rfl rfl ?_)
    refine xo_nil ?_
    refine xq_seq ?_
    refine xc_seq ?_
    refine xc_region ?_
    refine xo_rd (rd_fieldAddr rfl) rfl ?_
    refine xo_rd (rd_load1 rfl (Cl.o2 rfl)) rfl ?_
    refine xo_rd (rd_fieldAddr rfl) rfl ?_
    refine xo_rd (rd_load1 rfl (Cl.o2 rfl)) rfl ?_
    refine xo_rd (rd_fieldAddr rfl) rfl ?_
    refine xo_rd (rd_load1 rfl (Cl.o0 rfl)) rfl ?_
    refine xo_rd (rd_fieldAddr rfl) rfl ?_
    refine xo_rd (rd_load1 rfl (Cl.o0 rfl)) rfl ?_
    refine xo_rd (rd_cast (v' := .agg (It.enc ⟨true, true, e.i.f.i.ti, e.i.f.i.dr, zFr⟩).toArray) (rd_build (T := 43) rfl rfl rfl) (by kernel_rfl)) rfl ?_
    refine xo_rd (rd_cast (v' := .agg e.note.enc.toArray) (rd_build (T := 45) rfl rfl rfl) (by kernel_rfl)) rfl ?_
    refine xo_ef rfl (ef_storeB [_] _ rfl rfl (by first | rfl | assumption) rfl rfl rfl ?_)
    refine xo_nil ?_
    refine xq_seq ?_
    refine xc_ret ?_
  exact xq_retB (.inl rfl) Try.results70 rfl Kn.o1 rfl (List.sublist_append_right [_, _, _] _) ⟨rfl, rfl⟩
theorem xf_joins {W : World} {L : List Blk} (e x : En) (r : Bool) (hr : e.a.joins x.a = r) : XF Try.prog W 76 #[.agg e.enc.toArray, .agg x.enc.toArray] L (fun v L' => v = .bool r ∧ L' = L) := by
  subst hr
  refine xf_enter (args := [_, _]) Try.func76 rfl Try.ntmps76 rfl ?_
  focus
    refine xc_seq ?_
    refine xc_region ?_
    refine xo_ef rfl (ef_box rfl fun r2 => ?_)
    refine xo_ef rfl (ef_box rfl fun r3 => ?_)
    refine xo_rd (rd_assign rfl) rfl ?_
    refine xo_nil ?_
    refine xq_seq ?_
    refine xc_seq ?_
    refine xc_region ?_
    refine xo_rd (rd_fieldAddr rfl) rfl ?_
    refine xo_rd (rd_fieldAddr rfl) rfl ?_
    refine xo_rd (rd_load1 rfl (Cl.o1 rfl)) rfl ?_
    refine xo_rd (rd_move rfl) rfl ?_
    refine xo_split 8 rfl (fun hz1 => ?_) (fun hz1 => ?_)
    refine xo_grd rfl rfl (rd_fieldAddr rfl) rfl ?_
    refine xo_grd rfl rfl (rd_fieldAddr rfl) rfl ?_
    refine xo_grd rfl rfl (rd_load1 rfl (Cl.o0 rfl)) rfl ?_
    refine xo_rd (rd_pickt rfl rfl) rfl ?_
    refine xo_rd (rd_move rfl) rfl ?_
    refine xo_split 13 rfl (fun hz2 => ?_) (fun hz2 => ?_)
    refine xo_grd rfl rfl (rd_fieldAddr rfl) rfl ?_
    refine xo_grd rfl rfl (rd_load1 rfl (Cl.o1 rfl)) rfl ?_
    refine xo_grd rfl rfl (rd_fieldAddr rfl) rfl ?_
    refine xo_grd rfl rfl (rd_load1 rfl (Cl.o0 rfl)) rfl ?_
    refine xo_grd rfl rfl (rd_eql rfl rfl) rfl ?_
    refine xo_rd (rd_pickt rfl rfl) rfl ?_
    refine xo_rd (rd_move rfl) rfl ?_
    refine xo_dec 20 rfl (fun hz3 => ?_) (fun hz3 => ?_)
    refine xo_grd rfl rfl (rd_fieldAddr rfl) rfl ?_
    refine xo_grd rfl rfl (rd_load1 rfl (Cl.o1 rfl)) rfl ?_
    refine xo_grd rfl rfl (rd_fieldAddr rfl) rfl ?_
    refine xo_grd rfl rfl (rd_load1 rfl (Cl.o0 rfl)) rfl ?_
    refine xo_grd rfl rfl (rd_eql rfl rfl) rfl ?_
    refine xo_rd (rd_pickt rfl rfl) rfl ?_
    refine xo_rd (rd_assign rfl) rfl ?_
    refine xo_nil ?_
    refine xq_seq ?_
    refine xc_ret ?_
    rotate_left
    refine xo_gskip rfl rfl rfl rfl ?_
    refine xo_gskip rfl rfl rfl rfl ?_
    refine xo_gskip rfl rfl rfl rfl ?_
    refine xo_gskip rfl rfl rfl rfl ?_
    refine xo_gskip rfl rfl rfl rfl ?_
    refine xo_rd (rd_pickf rfl rfl) rfl ?_
    refine xo_rd (rd_assign rfl) rfl ?_
    refine xo_nil ?_
    refine xq_seq ?_
    refine xc_ret ?_
    rotate_left
    refine xo_gskip rfl rfl rfl rfl ?_
    refine xo_gskip rfl rfl rfl rfl ?_
    refine xo_gskip rfl rfl rfl rfl ?_
    refine xo_gskip rfl rfl rfl rfl ?_
    refine xo_gskip rfl rfl rfl rfl ?_
    refine xo_rd (rd_pickf rfl rfl) rfl ?_
    refine xo_rd (rd_move rfl) rfl ?_
    refine xo_gskip rfl rfl rfl rfl ?_
    refine xo_gskip rfl rfl rfl rfl ?_
    refine xo_gskip rfl rfl rfl rfl ?_
    refine xo_gskip rfl rfl rfl rfl ?_
    refine xo_gskip rfl rfl rfl rfl ?_
    refine xo_rd (rd_pickf rfl rfl) rfl ?_
    refine xo_rd (rd_assign rfl) rfl ?_
    refine xo_nil ?_
    refine xq_seq ?_
    refine xc_ret ?_
    rotate_left
    refine xo_gskip rfl rfl rfl rfl ?_
    refine xo_gskip rfl rfl rfl rfl ?_
    refine xo_gskip rfl rfl rfl rfl ?_
    refine xo_rd (rd_pickf rfl rfl) rfl ?_
    refine xo_rd (rd_move rfl) rfl ?_
    refine xo_gskip rfl rfl rfl rfl ?_
    refine xo_gskip rfl rfl rfl rfl ?_
    refine xo_gskip rfl rfl rfl rfl ?_
    refine xo_gskip rfl rfl rfl rfl ?_
    refine xo_gskip rfl rfl rfl rfl ?_
    refine xo_rd (rd_pickf rfl rfl) rfl ?_
    refine xo_rd (rd_move rfl) rfl ?_
    refine xo_gskip rfl rfl rfl rfl ?_
    refine xo_gskip rfl rfl rfl rfl ?_
    refine xo_gskip rfl rfl rfl rfl ?_
    refine xo_gskip rfl rfl rfl rfl ?_
    refine xo_gskip rfl rfl rfl rfl ?_
    refine xo_rd (rd_pickf rfl rfl) rfl ?_
    refine xo_rd (rd_assign rfl) rfl ?_
    refine xo_nil ?_
    refine xq_seq ?_
    refine xc_ret ?_
    rotate_left
  all_goals exact xq_sub (List.sublist_append_right [_, _] _) (xq_ret1 (.inl rfl) Try.results76 rfl ⟨congrArg Value.bool (by unfold Ea.joins En.a; simp_all), rfl⟩)
theorem xf_right {W : World} {L : List Blk} (b : Int) : XF Try.prog W 48 #[.agg #[.int .i64 b]] L (fun v L' => v = .bool (decide (1 ≤ b) && decide (b ≤ 256)) ∧ L' = L) := by
  refine xf_enter (args := [_]) Try.func48 rfl Try.ntmps48 rfl ?_
  focus
    refine xc_seq ?_
    refine xc_region ?_
    refine xo_ef rfl (ef_box rfl fun r1 => ?_)
    refine xo_rd (rd_assign rfl) rfl ?_
    refine xo_nil ?_
    refine xq_seq ?_
    refine xc_seq ?_
    refine xc_region ?_
    refine xo_rd (rd_fieldAddr rfl) rfl ?_
    refine xo_rd (rd_load1 rfl (Cl.o0 rfl)) rfl ?_
    refine xo_rd (rd_geq rfl rfl) rfl ?_
    refine xo_rd (rd_move rfl) rfl ?_
    refine xo_dec 6 rfl (fun hz1 => ?_) (fun hz1 => ?_)
    refine xo_grd rfl rfl (rd_fieldAddr rfl) rfl ?_
    refine xo_grd rfl rfl (rd_load1 rfl (Cl.o0 rfl)) rfl ?_
    refine xo_grd rfl rfl (rd_leq rfl rfl) rfl ?_
    refine xo_rd (rd_pickt rfl rfl) rfl ?_
    refine xo_rd (rd_assign rfl) rfl ?_
    refine xo_nil ?_
    refine xq_seq ?_
    refine xc_ret ?_
    rotate_left
    refine xo_gskip rfl rfl rfl rfl ?_
    refine xo_gskip rfl rfl rfl rfl ?_
    refine xo_gskip rfl rfl rfl rfl ?_
    refine xo_rd (rd_pickf rfl rfl) rfl ?_
    refine xo_rd (rd_assign rfl) rfl ?_
    refine xo_nil ?_
    refine xq_seq ?_
    refine xc_ret ?_
    rotate_left
  all_goals exact xq_tail (xq_ret1 (.inl rfl) Try.results48 rfl ⟨congrArg Value.bool (by first | (rw [decide_eq_false (p := 1 ≤ b) (by omega)]; rfl) | (rw [decide_eq_true (p := 1 ≤ b) (by omega)]; rfl)), rfl⟩)
theorem xf_over' {W : World} {L : List Blk} (b n : Int) : XF Try.prog W 62 #[.agg #[.int .i64 b], .int .i64 n] L (fun v L' => v = .bool (decide (b < n)) ∧ L' = L) := by
  refine xf_enter (args := [_, _]) Try.func62 rfl Try.ntmps62 rfl ?_
  focus
    refine xc_seq ?_
    refine xc_region ?_
    refine xo_ef rfl (ef_box rfl fun r2 => ?_)
    refine xo_rd (rd_assign rfl) rfl ?_
    refine xo_nil ?_
    refine xq_seq ?_
    refine xc_seq ?_
    refine xc_region ?_
    refine xo_rd (rd_move rfl) rfl ?_
    refine xo_rd (rd_fieldAddr rfl) rfl ?_
    refine xo_rd (rd_load1 rfl (Cl.o0 rfl)) rfl ?_
    refine xo_rd (rd_gtr rfl rfl) rfl ?_
    refine xo_rd (rd_assign rfl) rfl ?_
    refine xo_nil ?_
    refine xq_seq ?_
    refine xc_ret ?_
  exact xq_tail (xq_ret1 (.inl rfl) Try.results62 rfl ⟨rfl, rfl⟩)
end Go.Proofs.Ytpheiklhjelkcaa.X
