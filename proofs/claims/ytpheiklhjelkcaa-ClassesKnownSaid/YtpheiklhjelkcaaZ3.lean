/-
  Texts of my own, put together: walks and laws for this seat. No condition.
-/
import Derived.Test.YtpheiklhjelkcaaZ2
import Derived.Test.YtpheiklhjelkcaaZ1
import Derived.Test.YtpheiklhjelkcaaProg
import Derived.KernelRfl
/-
  Words of my own for walks, twenty-sixth part: an owned row that begins anywhere in its block. No condition; generic over the program.
-/
namespace Go.Proofs.Ytpheiklhjelkcaa.X
open Go Go.RowKit
set_option linter.unusedVariables false
set_option linter.unusedSimpArgs false
/-- An owned row, from a place of its block on. -/
def SlQ (s : Nat) (e : TypeId) (v : Value) (m : Nat) (xs : List Value) (l : List Blk) : Prop :=
  (v = .slice none 0 0 ∧ m = 0 ∧ xs = [] ∧ l = []) ∨
  ∃ b o cs cap, v = .slice (some ⟨b, o, none⟩) m cap ∧ l = [(b, .cells cs e (0, 0))] ∧ m ≤ cap ∧ o + cap * s ≤ cs.size ∧ (cs.toList.drop o).take (m * s) = xs
theorem SlQ.nil {s : Nat} {e : TypeId} : SlQ s e (.slice none 0 0) 0 [] [] := .inl ⟨rfl, rfl, rfl, rfl⟩
theorem SlO.q {s : Nat} {e : TypeId} {v : Value} {m : Nat} {xs : List Value} {l : List Blk} (h : SlO s e v m xs l) : SlQ s e v m xs l := by
  rcases h with h | ⟨b, cs, cap, h1, h2, h3, h4, h5⟩
  · exact .inl h
  · exact .inr ⟨b, 0, cs, cap, h1, h2, h3, by omega, by simpa using h5⟩
theorem SlQ.len {s : Nat} {e : TypeId} {v : Value} {m : Nat} {xs : List Value} {l : List Blk} (h : SlQ s e v m xs l) : xs.length = m * s := by
  rcases h with ⟨_, rfl, rfl, _⟩ | ⟨b, o, cs, cap, h1, h2, h3, h4, h5⟩
  · simp
  · rw [← h5, List.length_take, List.length_drop, Array.length_toList]
    have : m * s ≤ cap * s := Nat.mul_le_mul_right _ h3
    omega
theorem SlQ.opn {s : Nat} {e : TypeId} {v : Value} {m : Nat} {xs : List Value} {l : List Blk} (h : SlQ s e v m xs l) : ∃ p c, v = .slice p m c ∧ SlQ s e (.slice p m c) m xs l ∧ m ≤ c := by
  have h' := h
  rcases h with ⟨rfl, rfl, rfl, rfl⟩ | ⟨b, o, cs, cap, h1, h2, h3, h4, h5⟩
  · exact ⟨none, 0, rfl, h', Nat.le_refl _⟩
  · exact ⟨_, cap, h1, h1 ▸ h', h3⟩
theorem SlQ.rs {W : World} {L : List Blk} {s : Nat} {e : TypeId} {p : Option Addr} {m c : Nat} {xs : List Value} {l : List Blk} (h : SlQ s e (.slice p m c) m xs l) (hl : ∀ q, q ∈ l → q ∈ L) : Rs W L p xs := by
  rcases h with ⟨_, _, rfl, _⟩ | ⟨b, o, cs, cap, h1, rfl, h3, h4, h5⟩
  · exact Rs.nil
  · intro j u hj
    simp only [Value.slice.injEq] at h1
    refine ⟨b, o, h1.1, Cl.own (hl _ (List.mem_singleton.2 rfl)) ?_⟩
    rw [← h5, List.getElem?_take] at hj
    split at hj
    · rw [List.getElem?_drop] at hj
      simpa using hj
    · cases hj
theorem SlQ.rsl {W : World} {s : Nat} {e : TypeId} {p : Option Addr} {m c : Nat} {xs : List Value} {l R : List Blk} (h : SlQ s e (.slice p m c) m xs l) : Rs W (l ++ R) p xs := h.rs fun _ hq => List.mem_append_left _ hq
/-- The row behind its first elements. -/
theorem SlQ.cut {s : Nat} {e : TypeId} {p : Option Addr} {m c : Nat} {xs : List Value} {l : List Blk} (h : SlQ s e (.slice p m c) m xs l) (k : Nat) (hk : k ≤ m) :
    SlQ s e (.slice (slp p c k s) (m - k) (c - k)) (m - k) (xs.drop (k * s)) l := by
  rcases h with ⟨h1, rfl, rfl, rfl⟩ | ⟨b, o, cs, cap, h1, rfl, h3, h4, h5⟩
  · simp only [Value.slice.injEq] at h1
    obtain ⟨rfl, _, rfl⟩ := h1
    have : k = 0 := by omega
    subst this
    exact .inl ⟨by unfold slp; simp, rfl, by simp, rfl⟩
  · simp only [Value.slice.injEq, true_and] at h1
    obtain ⟨rfl, rfl⟩ := h1
    unfold slp
    split
    · rename_i hc
      have : m - k = 0 := by omega
      refine .inr ⟨b, o, cs, c - k, rfl, rfl, by omega, ?_, ?_⟩
      · have : (c - k) * s ≤ c * s := Nat.mul_le_mul_right _ (by omega)
        omega
      · rw [this, Nat.zero_mul, List.take_zero, ← h5, List.drop_eq_nil_of_le]
        rw [List.length_take]
        have : m * s ≤ k * s := Nat.mul_le_mul_right _ (by omega)
        omega
    · refine .inr ⟨b, o + k * s, cs, c - k, by rw [Option.map_some, add_zero'], rfl, by omega, ?_, ?_⟩
      · have : (c - k) * s + k * s = c * s := by rw [← Nat.add_mul]; congr 1; omega
        omega
      · rw [← h5, List.drop_take, List.drop_drop, ← Nat.sub_mul]
section
variable {P : Program} (w : World)
theorem run_append_roomAt (t ty e : TypeId) (i : TypeInfo) (ht : P.underlying t = some (.slice e)) (hi : P.info? e = some i)
    (b off sLen sCap : Nat) (cur : Array Value) (hg : w.heap[b]? = some (.cells cur e (0, 0))) (a : Addr) (m c : Nat) (news : List Value) (hl : news.length = m * i.size) (hnews : ∀ j u, news[j]? = some u → w.cell? (a.add j) = some u) (h1 : ∀ u ∈ news, u.oneCell' = true)
    (hroom : sLen + m ≤ sCap) (hfit : off + sLen * i.size + news.length ≤ cur.size) :
    (Builtin.append_ #[t, t] ty #[.slice (some ⟨b, off, none⟩) sLen sCap, .slice (some a) m c]).run P w = .ok (.slice (some ⟨b, off, none⟩) (sLen + m) sCap) (w.setRow b (cur.toList.take (off + sLen * i.size) ++ news ++ cur.toList.drop (off + sLen * i.size + news.length)).toArray) := by
  have hfc := run_firstCells_some (P := P) w i.size m a m c news hl hnews
  have hst := run_storeCells_at P b (off + sLen * i.size) e news 0 cur w hg (by omega) h1
  simp only [Nat.add_zero] at hst
  simp [Builtin.append_, run_underlying ht, sizeOf, typeInfo, hi, Builtin.lenOf, hroom, hfc, Addr.add_lit, hst]
end
theorem take_mid {α : Type} (cs : List α) (o n : Nat) (xs news : List α) (hx : (cs.drop o).take n = xs) (hn : xs.length = n) (ho : o + n ≤ cs.length) :
    ((cs.take (o + n) ++ news ++ cs.drop (o + n + news.length)).drop o).take (n + news.length) = xs ++ news := by
  have e : cs.take (o + n) = cs.take o ++ xs := by rw [List.take_add, hx]
  have hl : (cs.take o).length = o := by rw [List.length_take]; omega
  rw [e, List.append_assoc, List.append_assoc, List.drop_left' hl, ← List.append_assoc, List.take_left' (by rw [List.length_append, hn])]
section
variable {P : Program} {W : World} {n : Nat} {L : List Blk} {E : List (Nat × Value)} {Q : Exit → Act → World → Prop} {d : Option Nat} {t : TypeId} {pos : String} {after : Array Edge} {g : Option (Nat × Bool)} {K : Value → List Blk → Prop}
theorem ef_appendQ (A R l : List Blk) {T e s bt : Nat} {z : Value} {x y : Operand} {v : Value} {m k c : Nat} {p : Option Addr} {xs news : List Value} [hT : Sl P T e] [hI : Inf P e z s bt]
    (hx : ev E x = some v) (hy : ev E y = some (.slice p k c)) (hO : SlQ s e v m xs l) (hL : L = A ++ (l ++ R)) (hsrc : Rs W L p news) (hk : news.length = k * s) (h1a : news.all (·.oneCell') = true) (hs : 0 < s)
    (hfit : (m + k) * bt ≤ 140737488355328) (hsm : m + k ≤ 9223372036854775807) (hK : ∀ v' l', SlQ s e v' (m + k) (xs ++ news) l' → K v' (A ++ (l' ++ R))) :
    EF P W n L E ⟨d, .call ⟨.builtin .append, #[x, y], #[T, T]⟩, t, pos, after, g⟩ K := by
  have hxl := hO.len
  rcases hO with ⟨rfl, rfl, rfl, rfl⟩ | ⟨b, o, cs, cap, rfl, rfl, hmc, hcs, htk⟩
  · exact ef_append A R [] hx hy SlO.nil hL hsrc hk h1a hs hfit hsm fun v' l' h => hK v' l' h.q
  have h1 : ∀ u ∈ news, u.oneCell' = true := List.all_eq_true.1 h1a
  refine ⟨fun a w ha hw => ?_⟩
  have hrun : (execOp a.eval ⟨d, .call ⟨.builtin .append, #[x, y], #[T, T]⟩, t, pos, after, g⟩).run P w = ((Builtin.append_ #[T, T] t #[.slice (some ⟨b, o, none⟩) m cap, .slice p k c]).run P w).andThen fun v w => .ok (.value v) w := by
    simp [execOp, resolve, invoke, builtin, ha.eval hx, ha.eval hy]
  rw [hrun]
  obtain ⟨i, hi1, hi2, hi3, hi4, hzz⟩ := hI.h
  subst hi3; subst hi4
  by_cases hk0 : k = 0
  · subst hk0
    have hn : news = [] := List.eq_nil_of_length_eq_zero (by simpa using hk)
    subst hn
    rw [run_append_zero (some ⟨b, o, none⟩) p m cap c w hmc]
    refine ⟨_, hw, ?_⟩
    rw [hL]
    exact hK _ _ (.inr ⟨b, o, cs, cap, rfl, rfl, hmc, hcs, by simpa using htk⟩)
  · have hpos : 0 < news.length := by rw [hk]; exact Nat.mul_pos (by omega) hs
    obtain ⟨b0, o0, hp, _⟩ := hsrc 0 _ (List.getElem?_eq_getElem hpos)
    subst hp
    have hnews : ∀ (w' : World), Hp W w' L → ∀ j u, news[j]? = some u → w'.cell? ((⟨b0, o0, none⟩ : Addr).add j) = some u := fun w' hw' j u hj => by
      obtain ⟨b', o', hbo, hc⟩ := hsrc j u hj
      simp only [Option.some.injEq, Addr.mk.injEq] at hbo
      obtain ⟨rfl, rfl, _⟩ := hbo
      rw [add_zero']; exact hc.get hw'
    have hw2 := hw
    rw [hL] at hw2
    by_cases hroom : m + k ≤ cap
    · have hmk : (m + k) * i.size ≤ cap * i.size := Nat.mul_le_mul_right _ hroom
      rw [Nat.add_mul] at hmk
      have hfit' : o + m * i.size + news.length ≤ cs.size := by rw [hk]; omega
      have hr := run_append_roomAt (P := P) w T t e i hT.h hi1 b o m cap cs hw2.mid ⟨b0, o0, none⟩ k c news hk (hnews w hw) h1 hroom hfit'
      rw [hr]
      refine ⟨_, hw2.turnAt rfl rfl rfl (setRow_heap w b cs _ e (0, 0) hw2.mid) (fun q hq => setRow_other w b q _ hq), hK _ [(b, .cells (cs.toList.take (o + m * i.size) ++ news ++ cs.toList.drop (o + m * i.size + news.length)).toArray e (0, 0))] (.inr ⟨b, o, _, cap, rfl, rfl, hroom, ?_, ?_⟩)⟩
      · simp only [List.size_toArray, List.length_append, List.length_take, List.length_drop, Array.length_toList]
        omega
      · rw [Nat.add_mul, ← hk]
        exact take_mid _ _ _ _ _ htk hxl (by rw [Array.length_toList]; omega)
    · have holds : ∀ j u, xs[j]? = some u → w.cell? ((⟨b, o, none⟩ : Addr).add j) = some u := fun j u hj => by
        rw [add_zero']
        have hR : Rs W L (some ⟨b, o, none⟩) xs := SlQ.rs (s := i.size) (e := e) (m := m) (c := cap) (l := [(b, .cells cs e (0, 0))]) (.inr ⟨b, o, cs, cap, rfl, rfl, hmc, hcs, htk⟩) (by rw [hL]; simp)
        obtain ⟨b', o', hbo, hc⟩ := hR j u hj
        simp only [Option.some.injEq, Addr.mk.injEq] at hbo
        obtain ⟨rfl, rfl, _⟩ := hbo
        exact hc.get hw
      have hr := run_append_grow (P := P) w T t e i z hT.h hi1 hi2 ⟨b, o, none⟩ m cap xs hxl holds ⟨b0, o0, none⟩ k c news hk (hnews w hw) (by omega) (by omega) (growslice_fits (by omega) hfit)
      rw [hr]
      have hge := grownCap_ge w (m + k) cap e
      have hO' : SlO i.size e (.slice (some ⟨w.heap.size, 0, none⟩) (m + k) (grownCap w (m + k) cap e)) (m + k) (xs ++ news) [(w.heap.size, .cells (xs.toArray ++ news.toArray ++ Builtin.zeroCells z.cells (grownCap w (m + k) cap e - (m + k))) e (0, 0))] := by
        refine .inr ⟨w.heap.size, _, grownCap w (m + k) cap e, rfl, rfl, by omega, ?_, ?_⟩
        · simp only [Array.size_append, List.size_toArray, size_zeroCells, hk, hxl]
          rw [hzz, ← Nat.add_mul, ← Nat.add_mul]
          congr 1
          omega
        · have : (m + k) * i.size = (xs ++ news).length := by rw [List.length_append, hxl, hk, Nat.add_mul]
          rw [this]
          simp only [Array.toList_append, List.append_assoc]
          rw [← List.append_assoc]
          exact List.take_left
      refine ⟨_, ((hw2.drew.alloc _).sub (L' := (w.heap.size, .cells (xs.toArray ++ news.toArray ++ Builtin.zeroCells z.cells (grownCap w (m + k) cap e - (m + k))) e (0, 0)) :: (A ++ R)) ?_).perm ?_, hK _ _ hO'.q⟩
      · refine List.Sublist.cons_cons _ ?_
        exact (List.Sublist.refl A).append (by simp)
      · simp only [List.singleton_append]
        exact List.perm_middle.symm
/-- One element of an owned row is written. -/
theorem ef_storeQ (A R : List Blk) {T m b o i cap : Nat} {x y : Operand} {v : Value} {xs : List Value} {k : Nat} {e : TypeId} {l : List Blk} {p : Option Addr} [hS : Ts P T m] (hO : SlQ m e (.slice p k cap) k xs l) (hx : ev E x = some (.pointer (some ⟨b, o + i * m, none⟩))) (hb : p = some ⟨b, o, none⟩) (hik : i < k) {vs : List Value} (hy : ev E y = some (.agg vs.toArray))
    (hv1 : vs.all (·.oneCell') = true) (hvm : vs.length = m)
    (hL : L = A ++ (l ++ R)) (hK : ∀ l', SlQ m e (.slice p k cap) k (xs.take (i * m) ++ vs ++ xs.drop ((i + 1) * m)) l' → K undef (A ++ (l' ++ R))) : EF P W n L E ⟨d, .store T x y, t, pos, after, g⟩ K := by
  have hxl := hO.len
  rcases hO with ⟨h1, rfl, rfl, rfl⟩ | ⟨b', o', cs, cap', h1, rfl, h3, h4, h5⟩
  · omega
  · subst hb
    simp only [Value.slice.injEq, Option.some.injEq, Addr.mk.injEq, true_and, and_true] at h1
    obtain ⟨⟨rfl, rfl⟩, rfl⟩ := h1
    have e1 : (i + 1) * m ≤ k * m := Nat.mul_le_mul_right _ (by omega)
    have e2 : k * m ≤ cap * m := Nat.mul_le_mul_right _ h3
    have e3 : (i + 1) * m = i * m + m := by rw [Nat.add_mul, Nat.one_mul]
    refine ef_storeN A R hx hy hv1 hvm (by rw [hL]; rfl) (by omega) (hK [_] (.inr ⟨b, o, _, cap, rfl, rfl, h3, ?_, ?_⟩))
    · simp only [List.size_toArray, List.length_append, List.length_take, List.length_drop, Array.length_toList]
      omega
    · have hl : (cs.toList.take o).length = o := by rw [List.length_take, Array.length_toList]; omega
      have ex : cs.toList.drop o = xs ++ cs.toList.drop (o + k * m) := by
        rw [← h5, ← List.drop_drop, List.take_append_drop]
      have ea : cs.toList.take (o + i * m) = cs.toList.take o ++ xs.take (i * m) := by
        rw [List.take_add, ex, List.take_append_of_le_length (by omega)]
      have eb : cs.toList.drop (o + i * m + vs.length) = xs.drop ((i + 1) * m) ++ cs.toList.drop (o + k * m) := by
        rw [hvm, Nat.add_assoc, ← e3, ← List.drop_drop, ex, List.drop_append_of_le_length (by omega)]
      simp only []
      rw [ea, eb]
      simp only [List.append_assoc]
      rw [List.drop_left' hl]
      have : (xs.take (i * m) ++ (vs ++ xs.drop ((i + 1) * m))).length = k * m := by
        simp only [List.length_append, List.length_take, List.length_drop, hxl]; omega
      rw [← List.append_assoc vs, ← List.append_assoc, List.take_left' this]
end
end Go.Proofs.Ytpheiklhjelkcaa.X
/-
  Chapter 19: what entries, frames and parts are, wherever they lie. No condition.
-/
namespace Go.Proofs.Ytpheiklhjelkcaa.X
open Go Go.RowKit
set_option linter.unusedVariables false
set_option linter.unusedSimpArgs false
/-- What a packet's head tells. -/
structure Dc where
  n : Bool
  st : Bool
  pt : Int
  hp : Bool
  lo : Bool
  pic : Int
  h0 : Bool
  t0 : Int
  ht : Bool
  ti : Int
  sy : Bool
  hk : Bool
  ki : Int
deriving DecidableEq
def Dc.enc (x : Dc) : List Value := [.bool x.n, .bool x.st, .int .u8 x.pt, .bool x.hp, .bool x.lo, .int .u16 x.pic, .bool x.h0, .int .u8 x.t0, .bool x.ht, .int .u8 x.ti, .bool x.sy, .bool x.hk, .int .u8 x.ki]
/-- What a frame tells. -/
structure If9 where
  ty : Int
  tm : Int
  hp : Bool
  pic : Int
  h0 : Bool
  t0 : Int
  ti : Int
  sy : Bool
  dr : Bool
deriving DecidableEq
def If9.enc (x : If9) : List Value := [.int .u8 x.ty, .int .u32 x.tm, .bool x.hp, .int .u16 x.pic, .bool x.h0, .int .u8 x.t0, .int .u8 x.ti, .bool x.sy, .bool x.dr]
/-- A part, by itself. -/
structure Pa where
  d : Dc
  r : List Int
deriving DecidableEq
/-- A frame, by itself. -/
structure Fa where
  i : If9
  k : Bool
  ps : List Pa
deriving DecidableEq
/-- An entry, by itself. -/
structure Ea where
  g : Int
  s : Int
  lo : Bool
  kn : Bool
  ti : Int
  dr : Bool
  f : Fa
deriving DecidableEq
/-- A part in memory; l: the blocks that are its own. -/
structure Pt where
  a : Pa
  p : Option Addr
  c : Nat
  l : List Blk
def Pt.enc (x : Pt) : List Value := x.a.d.enc ++ [.slice x.p x.a.r.length x.c]
/-- A frame in memory; l: the block of its row of parts, where it is its own. -/
structure Fr where
  i : If9
  k : Bool
  ps : List Pt
  p : Option Addr
  c : Nat
  l : List Blk
def Fr.a (x : Fr) : Fa := ⟨x.i, x.k, x.ps.map Pt.a⟩
def frE (i : If9) (k : Bool) (p : Option Addr) (n c : Nat) : List Value := i.enc ++ [.bool k, .slice p n c]
def Fr.enc (x : Fr) : List Value := frE x.i x.k x.p x.ps.length x.c
theorem Fr.encE (x : Fr) : x.enc = frE x.i x.k x.p x.ps.length x.c := rfl
/-- An item in memory. -/
structure It where
  lo : Bool
  kn : Bool
  ti : Int
  dr : Bool
  f : Fr
def It.enc (x : It) : List Value := [.bool x.lo, .bool x.kn, .int .u8 x.ti, .bool x.dr] ++ x.f.enc
/-- An entry in memory. -/
structure En where
  g : Int
  s : Int
  i : It
def En.enc (x : En) : List Value := [.int .u64 x.g, .int .i64 x.s] ++ x.i.enc
def En.f (x : En) : Fr := x.i.f
def En.a (x : En) : Ea := ⟨x.g, x.s, x.i.lo, x.i.kn, x.i.ti, x.i.dr, x.i.f.a⟩
theorem Dc.len (x : Dc) : x.enc.length = 13 := rfl
theorem If9.len (x : If9) : x.enc.length = 9 := rfl
theorem Pt.len (x : Pt) : x.enc.length = 14 := rfl
theorem Fr.len (x : Fr) : x.enc.length = 11 := rfl
theorem It.len (x : It) : x.enc.length = 15 := rfl
theorem En.len (x : En) : x.enc.length = 17 := rfl
theorem Pt.one (x : Pt) : x.enc.all (·.oneCell') = true := rfl
theorem Fr.one (x : Fr) : x.enc.all (·.oneCell') = true := rfl
theorem It.one (x : It) : x.enc.all (·.oneCell') = true := rfl
theorem En.one (x : En) : x.enc.all (·.oneCell') = true := rfl
theorem flat_len {α : Type} {enc : α → List Value} {s : Nat} (h : ∀ x, (enc x).length = s) : ∀ l : List α, (l.flatMap enc).length = l.length * s
  | [] => by simp
  | x :: r => by rw [List.flatMap_cons, List.length_append, h, flat_len h r, List.length_cons, Nat.add_mul, Nat.one_mul, Nat.add_comm]
theorem flat_one {α : Type} {enc : α → List Value} (h : ∀ x, (enc x).all (·.oneCell') = true) (l : List α) : (l.flatMap enc).all (·.oneCell') = true :=
  List.all_eq_true.2 fun u hu => by
    obtain ⟨x, _, hx⟩ := List.mem_flatMap.1 hu
    exact List.all_eq_true.1 (h x) u hx
/-- The blocks that are a row of parts' own. -/
def pbl (l : List Pt) : List Blk := l.flatMap Pt.l
def Fr.bl (x : Fr) : List Blk := x.l ++ pbl x.ps
/-- A frame that can be read, of few parts. -/
structure Fr.At (W : World) (L : List Blk) (x : Fr) : Prop where
  rs : Rs W L x.p (x.ps.flatMap Pt.enc)
  rt : ∀ y, y ∈ x.ps → Rs W L y.p (ints .u8 y.a.r)
structure Fr.Few (x : Fr) : Prop where
  n : x.ps.length ≤ 1000
  r : ∀ y, y ∈ x.ps → y.a.r.length ≤ 1000
/-- A frame that is its own. -/
structure Fr.Ok (T : TypeId) (x : Fr) : Prop where
  rs : SlQ 14 T (.slice x.p x.ps.length x.c) x.ps.length (x.ps.flatMap Pt.enc) x.l
  rt : ∀ y, y ∈ x.ps → SlO 1 5 (.slice y.p y.a.r.length y.c) y.a.r.length (ints .u8 y.a.r) y.l
theorem Fr.At.mono {W : World} {L L' : List Blk} {x : Fr} (h : x.At W L) (hm : ∀ z, z ∈ L → z ∈ L') : x.At W L' := ⟨h.rs.mono hm, fun y hy => (h.rt y hy).mono hm⟩
theorem Fr.At.app {W : World} {L A : List Blk} {x : Fr} (h : x.At W L) : x.At W (A ++ L) := h.mono fun _ hz => List.mem_append_right _ hz
theorem Fr.At.skip {W : World} {L : List Blk} {q : Blk} {x : Fr} (h : x.At W L) : x.At W (q :: L) := h.mono fun _ hz => List.mem_cons_of_mem _ hz
theorem Fr.At.over {W w : World} {L : List Blk} {x : Fr} (h : x.At W L) (hw : Hp W w L) : x.At w [] := ⟨h.rs.over hw, fun y hy => (h.rt y hy).over hw⟩
theorem mem_pbl {l : List Pt} {y : Pt} (hy : y ∈ l) {z : Blk} (hz : z ∈ y.l) : z ∈ pbl l := List.mem_flatMap.2 ⟨y, hy, hz⟩
theorem Fr.Ok.at {W : World} {L : List Blk} {T : TypeId} {x : Fr} (h : x.Ok T) : x.At W (x.bl ++ L) :=
  ⟨h.rs.rs fun z hz => List.mem_append_left _ (List.mem_append_left _ hz), fun y hy => (h.rt y hy).rs fun z hz => List.mem_append_left _ (List.mem_append_right _ (mem_pbl hy hz))⟩
theorem Fr.a_i (x : Fr) : x.a.i = x.i := rfl
theorem Fr.few_of {x y : Fr} (h : x.a = y.a) (hf : y.Few) : x.Few := by
  have e : x.ps.map Pt.a = y.ps.map Pt.a := congrArg Fa.ps h
  refine ⟨?_, fun z hz => ?_⟩
  · have := congrArg List.length e
    simp only [List.length_map] at this
    rw [this]; exact hf.n
  · have : z.a ∈ y.ps.map Pt.a := e ▸ List.mem_map.2 ⟨z, hz, rfl⟩
    obtain ⟨u, hu, he⟩ := List.mem_map.1 this
    rw [← he]; exact hf.r u hu
theorem flat_set1 {α : Type} {enc : α → List Value} {s : Nat} (hs : ∀ x, (enc x).length = s) : ∀ (l : List α) (i j : Nat) (y z : α) (v : Value), l[i]? = some y → j < s → enc z = (enc y).set j v → (l.set i z).flatMap enc = (l.flatMap enc).set (i * s + j) v
  | [], i, j, y, z, v, h, hj, he => by simp at h
  | x :: r, 0, j, y, z, v, h, hj, he => by
    simp only [List.getElem?_cons_zero, Option.some.injEq] at h
    subst h
    rw [List.set_cons_zero, List.flatMap_cons, List.flatMap_cons, he, Nat.zero_mul, Nat.zero_add, List.set_append_left _ _ (by rw [hs]; exact hj)]
  | x :: r, i + 1, j, y, z, v, h, hj, he => by
    rw [List.getElem?_cons_succ] at h
    rw [List.set_cons_succ, List.flatMap_cons, List.flatMap_cons, flat_set1 hs r i j y z v h hj he, List.set_append_right _ _ (by rw [hs, Nat.add_mul, Nat.one_mul]; omega)]
    congr 2
    rw [hs, Nat.add_mul, Nat.one_mul]; omega
theorem flat_setR {α : Type} {enc : α → List Value} {s : Nat} (hs : ∀ x, (enc x).length = s) : ∀ (l : List α) (i : Nat) (z : α), i < l.length → (l.set i z).flatMap enc = (l.flatMap enc).take (i * s) ++ enc z ++ (l.flatMap enc).drop ((i + 1) * s)
  | [], i, z, h => by simp at h
  | x :: r, 0, z, h => by
    rw [List.set_cons_zero, List.flatMap_cons, List.flatMap_cons, Nat.zero_mul, List.take_zero, List.nil_append, Nat.zero_add, Nat.one_mul, List.drop_left' (hs x)]
  | x :: r, i + 1, z, h => by
    rw [List.set_cons_succ, List.flatMap_cons, List.flatMap_cons, flat_setR hs r i z (by simpa using h)]
    have e1 : (i + 1) * s = (enc x).length + i * s := by rw [hs, Nat.add_mul, Nat.one_mul]; omega
    have e2 : (i + 1 + 1) * s = (enc x).length + (i + 1) * s := by rw [hs, Nat.add_mul (i + 1), Nat.one_mul]; omega
    rw [e2, ← List.drop_drop, List.drop_left, e1, List.take_length_add_append]
    simp only [List.append_assoc]
theorem flat_drop {α : Type} {enc : α → List Value} {s : Nat} (hs : ∀ x, (enc x).length = s) : ∀ (l : List α) (i : Nat), (l.drop i).flatMap enc = (l.flatMap enc).drop (i * s)
  | l, 0 => by simp
  | [], i + 1 => by simp
  | x :: r, i + 1 => by
    have e1 : (i + 1) * s = (enc x).length + i * s := by rw [hs, Nat.add_mul, Nat.one_mul]; omega
    rw [List.drop_succ_cons, flat_drop hs r i, List.flatMap_cons, e1, ← List.drop_drop, List.drop_left]
theorem flat_take {α : Type} {enc : α → List Value} {s : Nat} (hs : ∀ x, (enc x).length = s) : ∀ (l : List α) (i : Nat), (l.take i).flatMap enc = (l.flatMap enc).take (i * s)
  | l, 0 => by simp
  | [], i + 1 => by simp
  | x :: r, i + 1 => by
    have e1 : (i + 1) * s = (enc x).length + i * s := by rw [hs, Nat.add_mul, Nat.one_mul]; omega
    rw [List.take_succ_cons, List.flatMap_cons, flat_take hs r i, List.flatMap_cons, e1, List.take_length_add_append]
theorem pbl_snoc (l : List Pt) (y : Pt) : pbl (l ++ [y]) = pbl l ++ y.l := by unfold pbl; rw [List.flatMap_append, List.flatMap_singleton]
theorem pbl_set (l : List Pt) (i : Nat) (y : Pt) (h : i < l.length) : pbl ((l.set i y).take (i + 1)) = pbl (l.take i) ++ y.l := by
  rw [List.take_add_one, List.take_set_of_le (Nat.le_refl _), List.getElem?_set_self h]
  exact pbl_snoc _ _
theorem map_set_same {α β : Type} (f : α → β) (l : List α) (i : Nat) (y z : α) (h : l[i]? = some y) (he : f z = f y) : (l.set i z).map f = l.map f := by
  apply List.ext_getElem?
  intro j
  rw [List.map_set]
  by_cases e : j = i
  · subst e
    have hl : j < (l.map f).length := by rw [List.length_map]; exact (List.getElem?_eq_some_iff.1 h).1
    rw [List.getElem?_set_self hl, List.getElem?_map, h, he]; rfl
  · rw [List.getElem?_set_ne (fun h => e h.symm)]
end Go.Proofs.Ytpheiklhjelkcaa.X
/-
  Words of my own for walks, twenty-seventh part: structs of numbers and truths, compared. No condition; generic over the program.
-/
namespace Go.Proofs.Ytpheiklhjelkcaa.X
open Go Go.RowKit
set_option linter.unusedVariables false
set_option linter.unusedSimpArgs false
section
variable {P : Program}
inductive FlatV (P : Program) (xs ys : Array Value) : List (String × Nat × Nat) → List Value → List Value → Prop
  | nil : FlatV P xs ys [] [] []
  | int {nm : String} {T off : Nat} {k : IntKind} {a b : Int} {ms : List (String × Nat × Nat)} {us vs : List Value} [hA : Ta P T false] [hI : Ik P T k] (hn : nm ≠ "_") (hx : xs[off]? = some (.int k a)) (hy : ys[off]? = some (.int k b)) (h : FlatV P xs ys ms us vs) : FlatV P xs ys ((nm, T, off) :: ms) (.int k a :: us) (.int k b :: vs)
  | bool {nm : String} {T off : Nat} {a b : Bool} {ms : List (String × Nat × Nat)} {us vs : List Value} [hA : Ta P T false] [hI : Bo P T] (hn : nm ≠ "_") (hx : xs[off]? = some (.bool a)) (hy : ys[off]? = some (.bool b)) (h : FlatV P xs ys ms us vs) : FlatV P xs ys ((nm, T, off) :: ms) (.bool a :: us) (.bool b :: vs)
theorem eqFields_flat (w : World) (d : Nat) {xs ys : Array Value} {ms : List (String × Nat × Nat)} {us vs : List Value} (h : FlatV P xs ys ms us vs) : ∀ fs : List Field, fs.map (fun f => (f.name, f.type, f.offset)) = ms →
    ∃ r, (Op.eqFields (d + 1) xs ys fs).run P w = .ok r w ∧ (r = true ↔ us = vs) := by
  induction h with
  | nil =>
    intro fs hf
    have : fs = [] := by simpa using hf
    subst this
    exact ⟨true, by simp [Op.eqFields], by simp⟩
  | @int nm T off k a b ms us vs hA hI hn hx hy h ih =>
    intro fs hf
    obtain ⟨f, fs, rfl, hf1, hf2⟩ := List.map_eq_cons_iff.1 hf
    simp only [Prod.mk.injEq] at hf1
    obtain ⟨rfl, rfl, rfl⟩ := hf1
    obtain ⟨r, hr, hi⟩ := ih fs hf2
    have hB := hA.h w
    have he := run_equalIn_int w d f.type k k a b hI.h
    by_cases hab : a = b
    · subst hab
      refine ⟨r, ?_, by simp [hi]⟩
      simp [Op.eqFields, hn, part, hB, hx, hy, he, hr]
    · refine ⟨false, ?_, by simp [hab]⟩
      simp [Op.eqFields, hn, part, hB, hx, hy, he, hab]
  | @bool nm T off a b ms us vs hA hI hn hx hy h ih =>
    intro fs hf
    obtain ⟨f, fs, rfl, hf1, hf2⟩ := List.map_eq_cons_iff.1 hf
    simp only [Prod.mk.injEq] at hf1
    obtain ⟨rfl, rfl, rfl⟩ := hf1
    obtain ⟨r, hr, hi⟩ := ih fs hf2
    have hB := hA.h w
    have he := run_equalIn_bool w d f.type a b hI.h
    by_cases hab : a = b
    · subst hab
      refine ⟨r, ?_, by simp [hi]⟩
      simp [Op.eqFields, hn, part, hB, hx, hy, he, hr]
    · refine ⟨false, ?_, by simp [hab]⟩
      have : (a == b) = false := by simpa using hab
      simp [Op.eqFields, hn, part, hB, hx, hy, he, this]
/-- What it takes to compare two such structs. -/
structure EqS (P : Program) (T : Nat) (us vs : List Value) (r : Bool) : Prop where
  h : ∀ w, (Op.equalIn 10000 T (.agg us.toArray) (.agg vs.toArray)).run P w = .ok r w
  g : P.eqGuardType P.depth T = false
theorem EqS.of {T : Nat} {us vs : List Value} {r : Bool} (ms : List (String × Nat × Nat)) (ht : P.underlying T = some (.struct (P.fieldsOf T))) (hp : P.stoodInHeld T = false) (hm : (P.fieldsOf T).toList.map (fun f => (f.name, f.type, f.offset)) = ms) (hg : P.eqGuardType P.depth T = false)
    (hf : FlatV P us.toArray vs.toArray ms us vs) (hr : r = true ↔ us = vs) : EqS P T us vs r := by
  refine ⟨fun w => ?_, hg⟩
  rw [run_equalIn_struct w 9999 T _ _ ht hp]
  obtain ⟨r', h1, h2⟩ := eqFields_flat w 9998 hf _ hm
  rw [h1]
  have : r' = r := by
    rw [Bool.eq_iff_iff, h2, hr]
  rw [this]
variable {W : World} {n : Nat} {L : List Blk} {E : List (Nat × Value)} {d : Option Nat} {t : TypeId} {pos : String} {after : Array Edge} {g : Option (Nat × Bool)}
theorem rd_eqS {T T' : Nat} {x y : Operand} {us vs : List Value} {r : Bool} (h : EqS P T us vs r) (hx : ev E x = some (.agg us.toArray)) (hy : ev E y = some (.agg vs.toArray)) :
    RD P W n L E ⟨d, .binOp .eql T x y T', t, pos, after, g⟩ (.bool r) := rd_bin hx hy fun w => by
  simp only [Sem.run_bind, run_eqGuard_agg w _ T x y _ _ h.g, Result.andThen_ok, run_eql_struct, h.h w]
theorem rd_neS {T T' : Nat} {x y : Operand} {us vs : List Value} {r : Bool} (h : EqS P T us vs r) (hx : ev E x = some (.agg us.toArray)) (hy : ev E y = some (.agg vs.toArray)) :
    RD P W n L E ⟨d, .binOp .neq T x y T', t, pos, after, g⟩ (.bool (!r)) := rd_bin hx hy fun w => by
  simp only [Sem.run_bind, run_eqGuard_agg w _ T x y _ _ h.g, Result.andThen_ok, run_neq_struct, h.h w]
end
end Go.Proofs.Ytpheiklhjelkcaa.X
/-
  What is known of the types and functions of this seat's translation, as instances; written by a program of mine off the translation. No condition.
-/
namespace Go.Proofs.Ytpheiklhjelkcaa.X
open Go

instance : Inf Try.prog 1 .nilFunc 1 8 := Inf.of (by kernel_rfl) rfl
instance : Ta Try.prog 1 false := ⟨Try.isAgg1⟩
instance : Inf Try.prog 2 (.int .i64 0) 1 8 := Inf.of (by kernel_rfl) rfl
instance : Ta Try.prog 2 false := ⟨Try.isAgg2⟩
instance : Ik Try.prog 2 .i64 := ⟨Try.underlying2⟩
instance : Inf Try.prog 3 (.int .i64 0) 1 8 := Inf.of (by kernel_rfl) rfl
instance : Ta Try.prog 3 false := ⟨Try.isAgg3⟩
instance : Ik Try.prog 3 .i64 := ⟨Try.underlying3⟩
instance : Inf Try.prog 4 (.bool false) 1 1 := Inf.of (by kernel_rfl) rfl
instance : Ta Try.prog 4 false := ⟨Try.isAgg4⟩
instance : Bo Try.prog 4 := ⟨Try.underlying4⟩
instance : Inf Try.prog 5 (.int .u8 0) 1 1 := Inf.of (by kernel_rfl) rfl
instance : Ta Try.prog 5 false := ⟨Try.isAgg5⟩
instance : Ik Try.prog 5 .u8 := ⟨Try.underlying5⟩
instance : Inf Try.prog 6 (.int .u8 0) 1 1 := Inf.of (by kernel_rfl) rfl
instance : Ta Try.prog 6 false := ⟨Try.isAgg6⟩
instance : Ik Try.prog 6 .u8 := ⟨Try.underlying6⟩
instance : Inf Try.prog 7 (.agg #[(.int .i64 0), (.int .i64 0), (.bool false), (.int .u8 0)]) 4 24 := Inf.of (by kernel_rfl) rfl
instance : Ta Try.prog 7 true := ⟨Try.isAgg7⟩
instance : Pl Try.prog 7 [(0, 1), (1, 1), (2, 1), (3, 1)] := ⟨_, Try.underlying7, fun w => by kernel_rfl⟩
instance : Fd Try.prog 7 0 0 2 := ⟨_, _, Try.underlying7, rfl, rfl, rfl⟩
instance : Fd Try.prog 7 1 1 3 := ⟨_, _, Try.underlying7, rfl, rfl, rfl⟩
instance : Fd Try.prog 7 2 2 4 := ⟨_, _, Try.underlying7, rfl, rfl, rfl⟩
instance : Fd Try.prog 7 3 3 6 := ⟨_, _, Try.underlying7, rfl, rfl, rfl⟩
instance : Inf Try.prog 8 (.agg #[(.int .i64 0), (.int .i64 0), (.bool false), (.int .u8 0)]) 4 24 := Inf.of (by kernel_rfl) rfl
instance : Ta Try.prog 8 true := ⟨Try.isAgg8⟩
instance : Pl Try.prog 8 [(0, 1), (1, 1), (2, 1), (3, 1)] := ⟨_, Try.underlying8, fun w => by kernel_rfl⟩
instance : Fd Try.prog 8 0 0 2 := ⟨_, _, Try.underlying8, rfl, rfl, rfl⟩
instance : Fd Try.prog 8 1 1 3 := ⟨_, _, Try.underlying8, rfl, rfl, rfl⟩
instance : Fd Try.prog 8 2 2 4 := ⟨_, _, Try.underlying8, rfl, rfl, rfl⟩
instance : Fd Try.prog 8 3 3 6 := ⟨_, _, Try.underlying8, rfl, rfl, rfl⟩
instance : Inf Try.prog 9 (.string ⟨#[]⟩) 1 16 := Inf.of (by kernel_rfl) rfl
instance : Ta Try.prog 9 false := ⟨Try.isAgg9⟩
instance : St Try.prog 9 := ⟨Try.underlying9⟩
instance : Inf Try.prog 10 (.string ⟨#[]⟩) 1 16 := Inf.of (by kernel_rfl) rfl
instance : Ta Try.prog 10 false := ⟨Try.isAgg10⟩
instance : St Try.prog 10 := ⟨Try.underlying10⟩
instance : Inf Try.prog 11 (.string ⟨#[]⟩) 1 16 := Inf.of (by kernel_rfl) rfl
instance : Ta Try.prog 11 false := ⟨Try.isAgg11⟩
instance : St Try.prog 11 := ⟨Try.underlying11⟩
instance : Inf Try.prog 12 (.int .u64 0) 1 8 := Inf.of (by kernel_rfl) rfl
instance : Ta Try.prog 12 false := ⟨Try.isAgg12⟩
instance : Ik Try.prog 12 .u64 := ⟨Try.underlying12⟩
instance : Inf Try.prog 13 (.agg #[(.string ⟨#[]⟩), (.int .u64 0)]) 2 24 := Inf.of (by kernel_rfl) rfl
instance : Ta Try.prog 13 true := ⟨Try.isAgg13⟩
instance : Pl Try.prog 13 [(0, 1), (1, 1)] := ⟨_, Try.underlying13, fun w => by kernel_rfl⟩
instance : Fd Try.prog 13 0 0 9 := ⟨_, _, Try.underlying13, rfl, rfl, rfl⟩
instance : Fd Try.prog 13 1 1 12 := ⟨_, _, Try.underlying13, rfl, rfl, rfl⟩
instance : Inf Try.prog 14 (.agg #[(.string ⟨#[]⟩), (.int .u64 0)]) 2 24 := Inf.of (by kernel_rfl) rfl
instance : Ta Try.prog 14 true := ⟨Try.isAgg14⟩
instance : Pl Try.prog 14 [(0, 1), (1, 1)] := ⟨_, Try.underlying14, fun w => by kernel_rfl⟩
instance : Fd Try.prog 14 0 0 9 := ⟨_, _, Try.underlying14, rfl, rfl, rfl⟩
instance : Fd Try.prog 14 1 1 12 := ⟨_, _, Try.underlying14, rfl, rfl, rfl⟩
instance : Inf Try.prog 15 (.pointer none) 1 8 := Inf.of (by kernel_rfl) rfl
instance : Ta Try.prog 15 false := ⟨Try.isAgg15⟩
instance : Pn Try.prog 15 149 := ⟨Try.underlying15⟩
instance : Inf Try.prog 16 (.pointer none) 1 8 := Inf.of (by kernel_rfl) rfl
instance : Ta Try.prog 16 false := ⟨Try.isAgg16⟩
instance : Pn Try.prog 16 152 := ⟨Try.underlying16⟩
instance : Inf Try.prog 17 (.pointer none) 1 8 := Inf.of (by kernel_rfl) rfl
instance : Ta Try.prog 17 false := ⟨Try.isAgg17⟩
instance : Pn Try.prog 17 160 := ⟨Try.underlying17⟩
instance : Inf Try.prog 18 (.agg #[(.pointer none)]) 1 8 := Inf.of (by kernel_rfl) rfl
instance : Ta Try.prog 18 true := ⟨Try.isAgg18⟩
instance : Pl Try.prog 18 [(0, 1)] := ⟨_, Try.underlying18, fun w => by kernel_rfl⟩
instance : Fd Try.prog 18 0 0 17 := ⟨_, _, Try.underlying18, rfl, rfl, rfl⟩
instance : Inf Try.prog 19 (.agg #[(.pointer none)]) 1 8 := Inf.of (by kernel_rfl) rfl
instance : Ta Try.prog 19 true := ⟨Try.isAgg19⟩
instance : Pl Try.prog 19 [(0, 1)] := ⟨_, Try.underlying19, fun w => by kernel_rfl⟩
instance : Fd Try.prog 19 0 0 17 := ⟨_, _, Try.underlying19, rfl, rfl, rfl⟩
instance : Inf Try.prog 20 .nilIface 1 16 := Inf.of (by kernel_rfl) rfl
instance : Ta Try.prog 20 false := ⟨Try.isAgg20⟩
instance : Inf Try.prog 21 (.int .i32 0) 1 4 := Inf.of (by kernel_rfl) rfl
instance : Ta Try.prog 21 false := ⟨Try.isAgg21⟩
instance : Ik Try.prog 21 .i32 := ⟨Try.underlying21⟩
instance : Inf Try.prog 22 (.slice none 0 0) 1 24 := Inf.of (by kernel_rfl) rfl
instance : Ta Try.prog 22 false := ⟨Try.isAgg22⟩
instance : Sl Try.prog 22 47 := ⟨Try.underlying22⟩
instance : Inf Try.prog 23 (.int .u64 0) 1 8 := Inf.of (by kernel_rfl) rfl
instance : Ta Try.prog 23 false := ⟨Try.isAgg23⟩
instance : Ik Try.prog 23 .u64 := ⟨Try.underlying23⟩
instance : Inf Try.prog 24 .nilFunc 1 8 := Inf.of (by kernel_rfl) rfl
instance : Ta Try.prog 24 false := ⟨Try.isAgg24⟩
instance : Inf Try.prog 25 .nilFunc 1 8 := Inf.of (by kernel_rfl) rfl
instance : Ta Try.prog 25 false := ⟨Try.isAgg25⟩
instance : Inf Try.prog 26 (.pointer none) 1 8 := Inf.of (by kernel_rfl) rfl
instance : Ta Try.prog 26 false := ⟨Try.isAgg26⟩
instance : Pn Try.prog 26 108 := ⟨Try.underlying26⟩
instance : Inf Try.prog 27 (.int .i64 0) 1 8 := Inf.of (by kernel_rfl) rfl
instance : Ta Try.prog 27 false := ⟨Try.isAgg27⟩
instance : Ik Try.prog 27 .i64 := ⟨Try.underlying27⟩
instance : Inf Try.prog 29 .nilFunc 1 8 := Inf.of (by kernel_rfl) rfl
instance : Ta Try.prog 29 false := ⟨Try.isAgg29⟩
instance : Inf Try.prog 30 .nilFunc 1 8 := Inf.of (by kernel_rfl) rfl
instance : Ta Try.prog 30 false := ⟨Try.isAgg30⟩
instance : Inf Try.prog 31 (.slice none 0 0) 1 24 := Inf.of (by kernel_rfl) rfl
instance : Ta Try.prog 31 false := ⟨Try.isAgg31⟩
instance : Sl Try.prog 31 57 := ⟨Try.underlying31⟩
instance : Inf Try.prog 32 (.agg #[(.int .i64 0), (.bool false), (.bool false), (.slice none 0 0)]) 4 40 := Inf.of (by kernel_rfl) rfl
instance : Ta Try.prog 32 true := ⟨Try.isAgg32⟩
instance : Pl Try.prog 32 [(0, 1), (1, 1), (2, 1), (3, 1)] := ⟨_, Try.underlying32, fun w => by kernel_rfl⟩
instance : Fd Try.prog 32 0 0 3 := ⟨_, _, Try.underlying32, rfl, rfl, rfl⟩
instance : Fd Try.prog 32 1 1 4 := ⟨_, _, Try.underlying32, rfl, rfl, rfl⟩
instance : Fd Try.prog 32 2 2 4 := ⟨_, _, Try.underlying32, rfl, rfl, rfl⟩
instance : Fd Try.prog 32 3 3 31 := ⟨_, _, Try.underlying32, rfl, rfl, rfl⟩
instance : Inf Try.prog 33 (.agg #[(.int .i64 0), (.bool false), (.bool false), (.slice none 0 0)]) 4 40 := Inf.of (by kernel_rfl) rfl
instance : Ta Try.prog 33 true := ⟨Try.isAgg33⟩
instance : Pl Try.prog 33 [(0, 1), (1, 1), (2, 1), (3, 1)] := ⟨_, Try.underlying33, fun w => by kernel_rfl⟩
instance : Fd Try.prog 33 0 0 3 := ⟨_, _, Try.underlying33, rfl, rfl, rfl⟩
instance : Fd Try.prog 33 1 1 4 := ⟨_, _, Try.underlying33, rfl, rfl, rfl⟩
instance : Fd Try.prog 33 2 2 4 := ⟨_, _, Try.underlying33, rfl, rfl, rfl⟩
instance : Fd Try.prog 33 3 3 31 := ⟨_, _, Try.underlying33, rfl, rfl, rfl⟩
instance : Inf Try.prog 34 .nilFunc 1 8 := Inf.of (by kernel_rfl) rfl
instance : Ta Try.prog 34 false := ⟨Try.isAgg34⟩
instance : Inf Try.prog 35 (.int .u32 0) 1 4 := Inf.of (by kernel_rfl) rfl
instance : Ta Try.prog 35 false := ⟨Try.isAgg35⟩
instance : Ik Try.prog 35 .u32 := ⟨Try.underlying35⟩
instance : Inf Try.prog 36 (.int .u16 0) 1 2 := Inf.of (by kernel_rfl) rfl
instance : Ta Try.prog 36 false := ⟨Try.isAgg36⟩
instance : Ik Try.prog 36 .u16 := ⟨Try.underlying36⟩
instance : Inf Try.prog 37 (.agg #[(.int .u8 0), (.int .u32 0), (.bool false), (.int .u16 0), (.bool false), (.int .u8 0), (.int .u8 0), (.bool false), (.bool false)]) 9 20 := Inf.of (by kernel_rfl) rfl
instance : Ta Try.prog 37 true := ⟨Try.isAgg37⟩
instance : Pl Try.prog 37 [(0, 1), (1, 1), (2, 1), (3, 1), (4, 1), (5, 1), (6, 1), (7, 1), (8, 1)] := ⟨_, Try.underlying37, fun w => by kernel_rfl⟩
instance : Fd Try.prog 37 0 0 5 := ⟨_, _, Try.underlying37, rfl, rfl, rfl⟩
instance : Fd Try.prog 37 1 1 35 := ⟨_, _, Try.underlying37, rfl, rfl, rfl⟩
instance : Fd Try.prog 37 2 2 4 := ⟨_, _, Try.underlying37, rfl, rfl, rfl⟩
instance : Fd Try.prog 37 3 3 36 := ⟨_, _, Try.underlying37, rfl, rfl, rfl⟩
instance : Fd Try.prog 37 4 4 4 := ⟨_, _, Try.underlying37, rfl, rfl, rfl⟩
instance : Fd Try.prog 37 5 5 5 := ⟨_, _, Try.underlying37, rfl, rfl, rfl⟩
instance : Fd Try.prog 37 6 6 5 := ⟨_, _, Try.underlying37, rfl, rfl, rfl⟩
instance : Fd Try.prog 37 7 7 4 := ⟨_, _, Try.underlying37, rfl, rfl, rfl⟩
instance : Fd Try.prog 37 8 8 4 := ⟨_, _, Try.underlying37, rfl, rfl, rfl⟩
instance : Inf Try.prog 38 (.agg #[(.int .u8 0), (.int .u32 0), (.bool false), (.int .u16 0), (.bool false), (.int .u8 0), (.int .u8 0), (.bool false), (.bool false)]) 9 20 := Inf.of (by kernel_rfl) rfl
instance : Ta Try.prog 38 true := ⟨Try.isAgg38⟩
instance : Pl Try.prog 38 [(0, 1), (1, 1), (2, 1), (3, 1), (4, 1), (5, 1), (6, 1), (7, 1), (8, 1)] := ⟨_, Try.underlying38, fun w => by kernel_rfl⟩
instance : Fd Try.prog 38 0 0 5 := ⟨_, _, Try.underlying38, rfl, rfl, rfl⟩
instance : Fd Try.prog 38 1 1 35 := ⟨_, _, Try.underlying38, rfl, rfl, rfl⟩
instance : Fd Try.prog 38 2 2 4 := ⟨_, _, Try.underlying38, rfl, rfl, rfl⟩
instance : Fd Try.prog 38 3 3 36 := ⟨_, _, Try.underlying38, rfl, rfl, rfl⟩
instance : Fd Try.prog 38 4 4 4 := ⟨_, _, Try.underlying38, rfl, rfl, rfl⟩
instance : Fd Try.prog 38 5 5 5 := ⟨_, _, Try.underlying38, rfl, rfl, rfl⟩
instance : Fd Try.prog 38 6 6 5 := ⟨_, _, Try.underlying38, rfl, rfl, rfl⟩
instance : Fd Try.prog 38 7 7 4 := ⟨_, _, Try.underlying38, rfl, rfl, rfl⟩
instance : Fd Try.prog 38 8 8 4 := ⟨_, _, Try.underlying38, rfl, rfl, rfl⟩
instance : Inf Try.prog 39 (.slice none 0 0) 1 24 := Inf.of (by kernel_rfl) rfl
instance : Ta Try.prog 39 false := ⟨Try.isAgg39⟩
instance : Sl Try.prog 39 116 := ⟨Try.underlying39⟩
instance : Inf Try.prog 40 (.agg #[(.int .u8 0), (.int .u32 0), (.bool false), (.int .u16 0), (.bool false), (.int .u8 0), (.int .u8 0), (.bool false), (.bool false), (.bool false), (.slice none 0 0)]) 11 48 := Inf.of (by kernel_rfl) rfl
instance : Ta Try.prog 40 true := ⟨Try.isAgg40⟩
instance : Pl Try.prog 40 [(0, 9), (9, 1), (10, 1)] := ⟨_, Try.underlying40, fun w => by kernel_rfl⟩
instance : Fd Try.prog 40 0 0 38 := ⟨_, _, Try.underlying40, rfl, rfl, rfl⟩
instance : Fd Try.prog 40 1 9 4 := ⟨_, _, Try.underlying40, rfl, rfl, rfl⟩
instance : Fd Try.prog 40 2 10 39 := ⟨_, _, Try.underlying40, rfl, rfl, rfl⟩
instance : Inf Try.prog 41 (.agg #[(.int .u8 0), (.int .u32 0), (.bool false), (.int .u16 0), (.bool false), (.int .u8 0), (.int .u8 0), (.bool false), (.bool false), (.bool false), (.slice none 0 0)]) 11 48 := Inf.of (by kernel_rfl) rfl
instance : Ta Try.prog 41 true := ⟨Try.isAgg41⟩
instance : Pl Try.prog 41 [(0, 9), (9, 1), (10, 1)] := ⟨_, Try.underlying41, fun w => by kernel_rfl⟩
instance : Fd Try.prog 41 0 0 38 := ⟨_, _, Try.underlying41, rfl, rfl, rfl⟩
instance : Fd Try.prog 41 1 9 4 := ⟨_, _, Try.underlying41, rfl, rfl, rfl⟩
instance : Fd Try.prog 41 2 10 39 := ⟨_, _, Try.underlying41, rfl, rfl, rfl⟩
instance : Inf Try.prog 42 (.agg #[(.bool false), (.bool false), (.int .u8 0), (.bool false), (.int .u8 0), (.int .u32 0), (.bool false), (.int .u16 0), (.bool false), (.int .u8 0), (.int .u8 0), (.bool false), (.bool false), (.bool false), (.slice none 0 0)]) 15 56 := Inf.of (by kernel_rfl) rfl
instance : Ta Try.prog 42 true := ⟨Try.isAgg42⟩
instance : Pl Try.prog 42 [(0, 1), (1, 1), (2, 1), (3, 1), (4, 11)] := ⟨_, Try.underlying42, fun w => by kernel_rfl⟩
instance : Fd Try.prog 42 0 0 4 := ⟨_, _, Try.underlying42, rfl, rfl, rfl⟩
instance : Fd Try.prog 42 1 1 4 := ⟨_, _, Try.underlying42, rfl, rfl, rfl⟩
instance : Fd Try.prog 42 2 2 5 := ⟨_, _, Try.underlying42, rfl, rfl, rfl⟩
instance : Fd Try.prog 42 3 3 4 := ⟨_, _, Try.underlying42, rfl, rfl, rfl⟩
instance : Fd Try.prog 42 4 4 41 := ⟨_, _, Try.underlying42, rfl, rfl, rfl⟩
instance : Inf Try.prog 43 (.agg #[(.bool false), (.bool false), (.int .u8 0), (.bool false), (.int .u8 0), (.int .u32 0), (.bool false), (.int .u16 0), (.bool false), (.int .u8 0), (.int .u8 0), (.bool false), (.bool false), (.bool false), (.slice none 0 0)]) 15 56 := Inf.of (by kernel_rfl) rfl
instance : Ta Try.prog 43 true := ⟨Try.isAgg43⟩
instance : Pl Try.prog 43 [(0, 1), (1, 1), (2, 1), (3, 1), (4, 11)] := ⟨_, Try.underlying43, fun w => by kernel_rfl⟩
instance : Fd Try.prog 43 0 0 4 := ⟨_, _, Try.underlying43, rfl, rfl, rfl⟩
instance : Fd Try.prog 43 1 1 4 := ⟨_, _, Try.underlying43, rfl, rfl, rfl⟩
instance : Fd Try.prog 43 2 2 5 := ⟨_, _, Try.underlying43, rfl, rfl, rfl⟩
instance : Fd Try.prog 43 3 3 4 := ⟨_, _, Try.underlying43, rfl, rfl, rfl⟩
instance : Fd Try.prog 43 4 4 41 := ⟨_, _, Try.underlying43, rfl, rfl, rfl⟩
instance : Inf Try.prog 44 (.agg #[(.int .u64 0), (.int .i64 0), (.bool false), (.bool false), (.int .u8 0), (.bool false), (.int .u8 0), (.int .u32 0), (.bool false), (.int .u16 0), (.bool false), (.int .u8 0), (.int .u8 0), (.bool false), (.bool false), (.bool false), (.slice none 0 0)]) 17 72 := Inf.of (by kernel_rfl) rfl
instance : Ta Try.prog 44 true := ⟨Try.isAgg44⟩
instance : Pl Try.prog 44 [(0, 1), (1, 1), (2, 15)] := ⟨_, Try.underlying44, fun w => by kernel_rfl⟩
instance : Fd Try.prog 44 0 0 23 := ⟨_, _, Try.underlying44, rfl, rfl, rfl⟩
instance : Fd Try.prog 44 1 1 3 := ⟨_, _, Try.underlying44, rfl, rfl, rfl⟩
instance : Fd Try.prog 44 2 2 43 := ⟨_, _, Try.underlying44, rfl, rfl, rfl⟩
instance : Inf Try.prog 45 (.agg #[(.int .u64 0), (.int .i64 0), (.bool false), (.bool false), (.int .u8 0), (.bool false), (.int .u8 0), (.int .u32 0), (.bool false), (.int .u16 0), (.bool false), (.int .u8 0), (.int .u8 0), (.bool false), (.bool false), (.bool false), (.slice none 0 0)]) 17 72 := Inf.of (by kernel_rfl) rfl
instance : Ta Try.prog 45 true := ⟨Try.isAgg45⟩
instance : Pl Try.prog 45 [(0, 1), (1, 1), (2, 15)] := ⟨_, Try.underlying45, fun w => by kernel_rfl⟩
instance : Fd Try.prog 45 0 0 23 := ⟨_, _, Try.underlying45, rfl, rfl, rfl⟩
instance : Fd Try.prog 45 1 1 3 := ⟨_, _, Try.underlying45, rfl, rfl, rfl⟩
instance : Fd Try.prog 45 2 2 43 := ⟨_, _, Try.underlying45, rfl, rfl, rfl⟩
instance : Inf Try.prog 46 (.agg #[(.int .i64 0), (.int .u64 0), (.int .i64 0), (.bool false), (.bool false), (.int .u8 0), (.bool false), (.int .u8 0), (.int .u32 0), (.bool false), (.int .u16 0), (.bool false), (.int .u8 0), (.int .u8 0), (.bool false), (.bool false), (.bool false), (.slice none 0 0)]) 18 80 := Inf.of (by kernel_rfl) rfl
instance : Ta Try.prog 46 true := ⟨Try.isAgg46⟩
instance : Pl Try.prog 46 [(0, 1), (1, 17)] := ⟨_, Try.underlying46, fun w => by kernel_rfl⟩
instance : Fd Try.prog 46 0 0 3 := ⟨_, _, Try.underlying46, rfl, rfl, rfl⟩
instance : Fd Try.prog 46 1 1 45 := ⟨_, _, Try.underlying46, rfl, rfl, rfl⟩
instance : Inf Try.prog 47 (.agg #[(.int .i64 0), (.int .u64 0), (.int .i64 0), (.bool false), (.bool false), (.int .u8 0), (.bool false), (.int .u8 0), (.int .u32 0), (.bool false), (.int .u16 0), (.bool false), (.int .u8 0), (.int .u8 0), (.bool false), (.bool false), (.bool false), (.slice none 0 0)]) 18 80 := Inf.of (by kernel_rfl) rfl
instance : Ta Try.prog 47 true := ⟨Try.isAgg47⟩
instance : Pl Try.prog 47 [(0, 1), (1, 17)] := ⟨_, Try.underlying47, fun w => by kernel_rfl⟩
instance : Fd Try.prog 47 0 0 3 := ⟨_, _, Try.underlying47, rfl, rfl, rfl⟩
instance : Fd Try.prog 47 1 1 45 := ⟨_, _, Try.underlying47, rfl, rfl, rfl⟩
instance : Inf Try.prog 49 .nilFunc 1 8 := Inf.of (by kernel_rfl) rfl
instance : Ta Try.prog 49 false := ⟨Try.isAgg49⟩
instance : Inf Try.prog 50 (.agg #[(.int .u8 0), (.int .u32 0), (.bool false), (.int .u16 0), (.bool false), (.int .u8 0), (.int .u8 0), (.bool false), (.bool false)]) 9 20 := Inf.of (by kernel_rfl) rfl
instance : Ta Try.prog 50 true := ⟨Try.isAgg50⟩
instance : Pl Try.prog 50 [(0, 1), (1, 1), (2, 1), (3, 1), (4, 1), (5, 1), (6, 1), (7, 1), (8, 1)] := ⟨_, Try.underlying50, fun w => by kernel_rfl⟩
instance : Fd Try.prog 50 0 0 5 := ⟨_, _, Try.underlying50, rfl, rfl, rfl⟩
instance : Fd Try.prog 50 1 1 35 := ⟨_, _, Try.underlying50, rfl, rfl, rfl⟩
instance : Fd Try.prog 50 2 2 4 := ⟨_, _, Try.underlying50, rfl, rfl, rfl⟩
instance : Fd Try.prog 50 3 3 36 := ⟨_, _, Try.underlying50, rfl, rfl, rfl⟩
instance : Fd Try.prog 50 4 4 4 := ⟨_, _, Try.underlying50, rfl, rfl, rfl⟩
instance : Fd Try.prog 50 5 5 5 := ⟨_, _, Try.underlying50, rfl, rfl, rfl⟩
instance : Fd Try.prog 50 6 6 5 := ⟨_, _, Try.underlying50, rfl, rfl, rfl⟩
instance : Fd Try.prog 50 7 7 4 := ⟨_, _, Try.underlying50, rfl, rfl, rfl⟩
instance : Fd Try.prog 50 8 8 4 := ⟨_, _, Try.underlying50, rfl, rfl, rfl⟩
instance : Inf Try.prog 51 (.slice none 0 0) 1 24 := Inf.of (by kernel_rfl) rfl
instance : Ta Try.prog 51 false := ⟨Try.isAgg51⟩
instance : Sl Try.prog 51 140 := ⟨Try.underlying51⟩
instance : Inf Try.prog 52 (.agg #[(.int .u8 0), (.int .u32 0), (.bool false), (.int .u16 0), (.bool false), (.int .u8 0), (.int .u8 0), (.bool false), (.bool false), (.bool false), (.slice none 0 0)]) 11 48 := Inf.of (by kernel_rfl) rfl
instance : Ta Try.prog 52 true := ⟨Try.isAgg52⟩
instance : Pl Try.prog 52 [(0, 9), (9, 1), (10, 1)] := ⟨_, Try.underlying52, fun w => by kernel_rfl⟩
instance : Fd Try.prog 52 0 0 50 := ⟨_, _, Try.underlying52, rfl, rfl, rfl⟩
instance : Fd Try.prog 52 1 9 4 := ⟨_, _, Try.underlying52, rfl, rfl, rfl⟩
instance : Fd Try.prog 52 2 10 51 := ⟨_, _, Try.underlying52, rfl, rfl, rfl⟩
instance : Inf Try.prog 53 (.agg #[(.int .u8 0), (.int .u32 0), (.bool false), (.int .u16 0), (.bool false), (.int .u8 0), (.int .u8 0), (.bool false), (.bool false), (.bool false), (.slice none 0 0)]) 11 48 := Inf.of (by kernel_rfl) rfl
instance : Ta Try.prog 53 true := ⟨Try.isAgg53⟩
instance : Pl Try.prog 53 [(0, 9), (9, 1), (10, 1)] := ⟨_, Try.underlying53, fun w => by kernel_rfl⟩
instance : Fd Try.prog 53 0 0 50 := ⟨_, _, Try.underlying53, rfl, rfl, rfl⟩
instance : Fd Try.prog 53 1 9 4 := ⟨_, _, Try.underlying53, rfl, rfl, rfl⟩
instance : Fd Try.prog 53 2 10 51 := ⟨_, _, Try.underlying53, rfl, rfl, rfl⟩
instance : Inf Try.prog 54 (.agg #[(.bool false), (.bool false), (.int .u8 0), (.bool false), (.int .u8 0), (.int .u32 0), (.bool false), (.int .u16 0), (.bool false), (.int .u8 0), (.int .u8 0), (.bool false), (.bool false), (.bool false), (.slice none 0 0)]) 15 56 := Inf.of (by kernel_rfl) rfl
instance : Ta Try.prog 54 true := ⟨Try.isAgg54⟩
instance : Pl Try.prog 54 [(0, 1), (1, 1), (2, 1), (3, 1), (4, 11)] := ⟨_, Try.underlying54, fun w => by kernel_rfl⟩
instance : Fd Try.prog 54 0 0 4 := ⟨_, _, Try.underlying54, rfl, rfl, rfl⟩
instance : Fd Try.prog 54 1 1 4 := ⟨_, _, Try.underlying54, rfl, rfl, rfl⟩
instance : Fd Try.prog 54 2 2 5 := ⟨_, _, Try.underlying54, rfl, rfl, rfl⟩
instance : Fd Try.prog 54 3 3 4 := ⟨_, _, Try.underlying54, rfl, rfl, rfl⟩
instance : Fd Try.prog 54 4 4 53 := ⟨_, _, Try.underlying54, rfl, rfl, rfl⟩
instance : Inf Try.prog 55 (.agg #[(.bool false), (.bool false), (.int .u8 0), (.bool false), (.int .u8 0), (.int .u32 0), (.bool false), (.int .u16 0), (.bool false), (.int .u8 0), (.int .u8 0), (.bool false), (.bool false), (.bool false), (.slice none 0 0)]) 15 56 := Inf.of (by kernel_rfl) rfl
instance : Ta Try.prog 55 true := ⟨Try.isAgg55⟩
instance : Pl Try.prog 55 [(0, 1), (1, 1), (2, 1), (3, 1), (4, 11)] := ⟨_, Try.underlying55, fun w => by kernel_rfl⟩
instance : Fd Try.prog 55 0 0 4 := ⟨_, _, Try.underlying55, rfl, rfl, rfl⟩
instance : Fd Try.prog 55 1 1 4 := ⟨_, _, Try.underlying55, rfl, rfl, rfl⟩
instance : Fd Try.prog 55 2 2 5 := ⟨_, _, Try.underlying55, rfl, rfl, rfl⟩
instance : Fd Try.prog 55 3 3 4 := ⟨_, _, Try.underlying55, rfl, rfl, rfl⟩
instance : Fd Try.prog 55 4 4 53 := ⟨_, _, Try.underlying55, rfl, rfl, rfl⟩
instance : Inf Try.prog 56 (.agg #[(.int .u64 0), (.int .i64 0), (.bool false), (.bool false), (.int .u8 0), (.bool false), (.int .u8 0), (.int .u32 0), (.bool false), (.int .u16 0), (.bool false), (.int .u8 0), (.int .u8 0), (.bool false), (.bool false), (.bool false), (.slice none 0 0)]) 17 72 := Inf.of (by kernel_rfl) rfl
instance : Ta Try.prog 56 true := ⟨Try.isAgg56⟩
instance : Pl Try.prog 56 [(0, 1), (1, 1), (2, 15)] := ⟨_, Try.underlying56, fun w => by kernel_rfl⟩
instance : Fd Try.prog 56 0 0 23 := ⟨_, _, Try.underlying56, rfl, rfl, rfl⟩
instance : Fd Try.prog 56 1 1 3 := ⟨_, _, Try.underlying56, rfl, rfl, rfl⟩
instance : Fd Try.prog 56 2 2 55 := ⟨_, _, Try.underlying56, rfl, rfl, rfl⟩
instance : Inf Try.prog 57 (.agg #[(.int .u64 0), (.int .i64 0), (.bool false), (.bool false), (.int .u8 0), (.bool false), (.int .u8 0), (.int .u32 0), (.bool false), (.int .u16 0), (.bool false), (.int .u8 0), (.int .u8 0), (.bool false), (.bool false), (.bool false), (.slice none 0 0)]) 17 72 := Inf.of (by kernel_rfl) rfl
instance : Ta Try.prog 57 true := ⟨Try.isAgg57⟩
instance : Pl Try.prog 57 [(0, 1), (1, 1), (2, 15)] := ⟨_, Try.underlying57, fun w => by kernel_rfl⟩
instance : Fd Try.prog 57 0 0 23 := ⟨_, _, Try.underlying57, rfl, rfl, rfl⟩
instance : Fd Try.prog 57 1 1 3 := ⟨_, _, Try.underlying57, rfl, rfl, rfl⟩
instance : Fd Try.prog 57 2 2 55 := ⟨_, _, Try.underlying57, rfl, rfl, rfl⟩
instance : Inf Try.prog 59 .nilFunc 1 8 := Inf.of (by kernel_rfl) rfl
instance : Ta Try.prog 59 false := ⟨Try.isAgg59⟩
instance : Inf Try.prog 61 .nilFunc 1 8 := Inf.of (by kernel_rfl) rfl
instance : Ta Try.prog 61 false := ⟨Try.isAgg61⟩
instance : Inf Try.prog 62 .nilFunc 1 8 := Inf.of (by kernel_rfl) rfl
instance : Ta Try.prog 62 false := ⟨Try.isAgg62⟩
instance : Inf Try.prog 63 .nilFunc 1 8 := Inf.of (by kernel_rfl) rfl
instance : Ta Try.prog 63 false := ⟨Try.isAgg63⟩
instance : Inf Try.prog 64 .nilFunc 1 8 := Inf.of (by kernel_rfl) rfl
instance : Ta Try.prog 64 false := ⟨Try.isAgg64⟩
instance : Inf Try.prog 65 .nilFunc 1 8 := Inf.of (by kernel_rfl) rfl
instance : Ta Try.prog 65 false := ⟨Try.isAgg65⟩
instance : Inf Try.prog 67 .nilFunc 1 8 := Inf.of (by kernel_rfl) rfl
instance : Ta Try.prog 67 false := ⟨Try.isAgg67⟩
instance : Inf Try.prog 68 .nilFunc 1 8 := Inf.of (by kernel_rfl) rfl
instance : Ta Try.prog 68 false := ⟨Try.isAgg68⟩
instance : Inf Try.prog 69 .nilFunc 1 8 := Inf.of (by kernel_rfl) rfl
instance : Ta Try.prog 69 false := ⟨Try.isAgg69⟩
instance : Inf Try.prog 70 .nilFunc 1 8 := Inf.of (by kernel_rfl) rfl
instance : Ta Try.prog 70 false := ⟨Try.isAgg70⟩
instance : Inf Try.prog 71 .nilFunc 1 8 := Inf.of (by kernel_rfl) rfl
instance : Ta Try.prog 71 false := ⟨Try.isAgg71⟩
instance : Inf Try.prog 72 .nilFunc 1 8 := Inf.of (by kernel_rfl) rfl
instance : Ta Try.prog 72 false := ⟨Try.isAgg72⟩
instance : Inf Try.prog 73 (.slice none 0 0) 1 24 := Inf.of (by kernel_rfl) rfl
instance : Ta Try.prog 73 false := ⟨Try.isAgg73⟩
instance : Sl Try.prog 73 45 := ⟨Try.underlying73⟩
instance : Inf Try.prog 74 .nilFunc 1 8 := Inf.of (by kernel_rfl) rfl
instance : Ta Try.prog 74 false := ⟨Try.isAgg74⟩
instance : Inf Try.prog 75 .nilFunc 1 8 := Inf.of (by kernel_rfl) rfl
instance : Ta Try.prog 75 false := ⟨Try.isAgg75⟩
instance : Inf Try.prog 76 .nilFunc 1 8 := Inf.of (by kernel_rfl) rfl
instance : Ta Try.prog 76 false := ⟨Try.isAgg76⟩
instance : Inf Try.prog 77 .nilFunc 1 8 := Inf.of (by kernel_rfl) rfl
instance : Ta Try.prog 77 false := ⟨Try.isAgg77⟩
instance : Inf Try.prog 79 .nilFunc 1 8 := Inf.of (by kernel_rfl) rfl
instance : Ta Try.prog 79 false := ⟨Try.isAgg79⟩
instance : Inf Try.prog 80 .nilFunc 1 8 := Inf.of (by kernel_rfl) rfl
instance : Ta Try.prog 80 false := ⟨Try.isAgg80⟩
instance : Inf Try.prog 81 .nilFunc 1 8 := Inf.of (by kernel_rfl) rfl
instance : Ta Try.prog 81 false := ⟨Try.isAgg81⟩
instance : Inf Try.prog 82 .nilFunc 1 8 := Inf.of (by kernel_rfl) rfl
instance : Ta Try.prog 82 false := ⟨Try.isAgg82⟩
instance : Inf Try.prog 83 .nilFunc 1 8 := Inf.of (by kernel_rfl) rfl
instance : Ta Try.prog 83 false := ⟨Try.isAgg83⟩
instance : Inf Try.prog 84 .nilFunc 1 8 := Inf.of (by kernel_rfl) rfl
instance : Ta Try.prog 84 false := ⟨Try.isAgg84⟩
instance : Inf Try.prog 85 (.agg #[(.bool false), (.int .i64 0), (.int .u8 0), (.bool false), (.bool false), (.int .u8 0)]) 6 24 := Inf.of (by kernel_rfl) rfl
instance : Ta Try.prog 85 true := ⟨Try.isAgg85⟩
instance : Pl Try.prog 85 [(0, 1), (1, 1), (2, 1), (3, 1), (4, 1), (5, 1)] := ⟨_, Try.underlying85, fun w => by kernel_rfl⟩
instance : Fd Try.prog 85 0 0 4 := ⟨_, _, Try.underlying85, rfl, rfl, rfl⟩
instance : Fd Try.prog 85 1 1 3 := ⟨_, _, Try.underlying85, rfl, rfl, rfl⟩
instance : Fd Try.prog 85 2 2 5 := ⟨_, _, Try.underlying85, rfl, rfl, rfl⟩
instance : Fd Try.prog 85 3 3 4 := ⟨_, _, Try.underlying85, rfl, rfl, rfl⟩
instance : Fd Try.prog 85 4 4 4 := ⟨_, _, Try.underlying85, rfl, rfl, rfl⟩
instance : Fd Try.prog 85 5 5 5 := ⟨_, _, Try.underlying85, rfl, rfl, rfl⟩
instance : Inf Try.prog 86 (.agg #[(.bool false), (.int .i64 0), (.int .u8 0), (.bool false), (.bool false), (.int .u8 0)]) 6 24 := Inf.of (by kernel_rfl) rfl
instance : Ta Try.prog 86 true := ⟨Try.isAgg86⟩
instance : Pl Try.prog 86 [(0, 1), (1, 1), (2, 1), (3, 1), (4, 1), (5, 1)] := ⟨_, Try.underlying86, fun w => by kernel_rfl⟩
instance : Fd Try.prog 86 0 0 4 := ⟨_, _, Try.underlying86, rfl, rfl, rfl⟩
instance : Fd Try.prog 86 1 1 3 := ⟨_, _, Try.underlying86, rfl, rfl, rfl⟩
instance : Fd Try.prog 86 2 2 5 := ⟨_, _, Try.underlying86, rfl, rfl, rfl⟩
instance : Fd Try.prog 86 3 3 4 := ⟨_, _, Try.underlying86, rfl, rfl, rfl⟩
instance : Fd Try.prog 86 4 4 4 := ⟨_, _, Try.underlying86, rfl, rfl, rfl⟩
instance : Fd Try.prog 86 5 5 5 := ⟨_, _, Try.underlying86, rfl, rfl, rfl⟩
instance : Inf Try.prog 87 .nilFunc 1 8 := Inf.of (by kernel_rfl) rfl
instance : Ta Try.prog 87 false := ⟨Try.isAgg87⟩
instance : Inf Try.prog 88 (.slice none 0 0) 1 24 := Inf.of (by kernel_rfl) rfl
instance : Ta Try.prog 88 false := ⟨Try.isAgg88⟩
instance : Sl Try.prog 88 36 := ⟨Try.underlying88⟩
instance : Inf Try.prog 89 (.pointer none) 1 8 := Inf.of (by kernel_rfl) rfl
instance : Ta Try.prog 89 false := ⟨Try.isAgg89⟩
instance : Pn Try.prog 89 127 := ⟨Try.underlying89⟩
instance : Inf Try.prog 91 .nilFunc 1 8 := Inf.of (by kernel_rfl) rfl
instance : Ta Try.prog 91 false := ⟨Try.isAgg91⟩
instance : Inf Try.prog 92 (.slice none 0 0) 1 24 := Inf.of (by kernel_rfl) rfl
instance : Ta Try.prog 92 false := ⟨Try.isAgg92⟩
instance : Sl Try.prog 92 5 := ⟨Try.underlying92⟩
instance : Inf Try.prog 94 .nilFunc 1 8 := Inf.of (by kernel_rfl) rfl
instance : Ta Try.prog 94 false := ⟨Try.isAgg94⟩
instance : Inf Try.prog 95 .nilFunc 1 8 := Inf.of (by kernel_rfl) rfl
instance : Ta Try.prog 95 false := ⟨Try.isAgg95⟩
instance : Inf Try.prog 96 .nilFunc 1 8 := Inf.of (by kernel_rfl) rfl
instance : Ta Try.prog 96 false := ⟨Try.isAgg96⟩
instance : Inf Try.prog 97 .nilFunc 1 8 := Inf.of (by kernel_rfl) rfl
instance : Ta Try.prog 97 false := ⟨Try.isAgg97⟩
instance : Inf Try.prog 98 .nilFunc 1 8 := Inf.of (by kernel_rfl) rfl
instance : Ta Try.prog 98 false := ⟨Try.isAgg98⟩
instance : Inf Try.prog 99 .nilFunc 1 8 := Inf.of (by kernel_rfl) rfl
instance : Ta Try.prog 99 false := ⟨Try.isAgg99⟩
instance : Inf Try.prog 100 .nilFunc 1 8 := Inf.of (by kernel_rfl) rfl
instance : Ta Try.prog 100 false := ⟨Try.isAgg100⟩
instance : Inf Try.prog 101 (.slice none 0 0) 1 24 := Inf.of (by kernel_rfl) rfl
instance : Ta Try.prog 101 false := ⟨Try.isAgg101⟩
instance : Sl Try.prog 101 3 := ⟨Try.underlying101⟩
instance : Inf Try.prog 102 (.slice none 0 0) 1 24 := Inf.of (by kernel_rfl) rfl
instance : Ta Try.prog 102 false := ⟨Try.isAgg102⟩
instance : Sl Try.prog 102 101 := ⟨Try.underlying102⟩
instance : Inf Try.prog 103 .nilFunc 1 8 := Inf.of (by kernel_rfl) rfl
instance : Ta Try.prog 103 false := ⟨Try.isAgg103⟩
instance : Inf Try.prog 104 .nilFunc 1 8 := Inf.of (by kernel_rfl) rfl
instance : Ta Try.prog 104 false := ⟨Try.isAgg104⟩
instance : Inf Try.prog 105 (.agg #[(.int .i64 0)]) 1 8 := Inf.of (by kernel_rfl) rfl
instance : Ta Try.prog 105 true := ⟨Try.isAgg105⟩
instance : Pl Try.prog 105 [(0, 1)] := ⟨_, Try.underlying105, fun w => by kernel_rfl⟩
instance : Fd Try.prog 105 0 0 3 := ⟨_, _, Try.underlying105, rfl, rfl, rfl⟩
instance : Inf Try.prog 106 (.agg #[(.int .i64 0)]) 1 8 := Inf.of (by kernel_rfl) rfl
instance : Ta Try.prog 106 true := ⟨Try.isAgg106⟩
instance : Pl Try.prog 106 [(0, 1)] := ⟨_, Try.underlying106, fun w => by kernel_rfl⟩
instance : Fd Try.prog 106 0 0 3 := ⟨_, _, Try.underlying106, rfl, rfl, rfl⟩
instance : Inf Try.prog 107 (.agg #[(.int .i64 0), (.bool false), (.bool false), (.slice none 0 0)]) 4 40 := Inf.of (by kernel_rfl) rfl
instance : Ta Try.prog 107 true := ⟨Try.isAgg107⟩
instance : Pl Try.prog 107 [(0, 1), (1, 1), (2, 1), (3, 1)] := ⟨_, Try.underlying107, fun w => by kernel_rfl⟩
instance : Fd Try.prog 107 0 0 106 := ⟨_, _, Try.underlying107, rfl, rfl, rfl⟩
instance : Fd Try.prog 107 1 1 4 := ⟨_, _, Try.underlying107, rfl, rfl, rfl⟩
instance : Fd Try.prog 107 2 2 4 := ⟨_, _, Try.underlying107, rfl, rfl, rfl⟩
instance : Fd Try.prog 107 3 3 73 := ⟨_, _, Try.underlying107, rfl, rfl, rfl⟩
instance : Inf Try.prog 108 (.agg #[(.int .i64 0), (.bool false), (.bool false), (.slice none 0 0)]) 4 40 := Inf.of (by kernel_rfl) rfl
instance : Ta Try.prog 108 true := ⟨Try.isAgg108⟩
instance : Pl Try.prog 108 [(0, 1), (1, 1), (2, 1), (3, 1)] := ⟨_, Try.underlying108, fun w => by kernel_rfl⟩
instance : Fd Try.prog 108 0 0 106 := ⟨_, _, Try.underlying108, rfl, rfl, rfl⟩
instance : Fd Try.prog 108 1 1 4 := ⟨_, _, Try.underlying108, rfl, rfl, rfl⟩
instance : Fd Try.prog 108 2 2 4 := ⟨_, _, Try.underlying108, rfl, rfl, rfl⟩
instance : Fd Try.prog 108 3 3 73 := ⟨_, _, Try.underlying108, rfl, rfl, rfl⟩
instance : Inf Try.prog 109 .nilFunc 1 8 := Inf.of (by kernel_rfl) rfl
instance : Ta Try.prog 109 false := ⟨Try.isAgg109⟩
instance : Inf Try.prog 110 .nilFunc 1 8 := Inf.of (by kernel_rfl) rfl
instance : Ta Try.prog 110 false := ⟨Try.isAgg110⟩
instance : Inf Try.prog 111 (.slice none 0 0) 1 24 := Inf.of (by kernel_rfl) rfl
instance : Ta Try.prog 111 false := ⟨Try.isAgg111⟩
instance : Sl Try.prog 111 55 := ⟨Try.underlying111⟩
instance : Inf Try.prog 112 .nilFunc 1 8 := Inf.of (by kernel_rfl) rfl
instance : Ta Try.prog 112 false := ⟨Try.isAgg112⟩
instance : Inf Try.prog 113 (.agg #[(.bool false), (.bool false), (.int .u8 0), (.bool false), (.bool false), (.int .u16 0), (.bool false), (.int .u8 0), (.bool false), (.int .u8 0), (.bool false), (.bool false), (.int .u8 0)]) 13 16 := Inf.of (by kernel_rfl) rfl
instance : Ta Try.prog 113 true := ⟨Try.isAgg113⟩
instance : Pl Try.prog 113 [(0, 1), (1, 1), (2, 1), (3, 1), (4, 1), (5, 1), (6, 1), (7, 1), (8, 1), (9, 1), (10, 1), (11, 1), (12, 1)] := ⟨_, Try.underlying113, fun w => by kernel_rfl⟩
instance : Fd Try.prog 113 0 0 4 := ⟨_, _, Try.underlying113, rfl, rfl, rfl⟩
instance : Fd Try.prog 113 1 1 4 := ⟨_, _, Try.underlying113, rfl, rfl, rfl⟩
instance : Fd Try.prog 113 2 2 5 := ⟨_, _, Try.underlying113, rfl, rfl, rfl⟩
instance : Fd Try.prog 113 3 3 4 := ⟨_, _, Try.underlying113, rfl, rfl, rfl⟩
instance : Fd Try.prog 113 4 4 4 := ⟨_, _, Try.underlying113, rfl, rfl, rfl⟩
instance : Fd Try.prog 113 5 5 36 := ⟨_, _, Try.underlying113, rfl, rfl, rfl⟩
instance : Fd Try.prog 113 6 6 4 := ⟨_, _, Try.underlying113, rfl, rfl, rfl⟩
instance : Fd Try.prog 113 7 7 5 := ⟨_, _, Try.underlying113, rfl, rfl, rfl⟩
instance : Fd Try.prog 113 8 8 4 := ⟨_, _, Try.underlying113, rfl, rfl, rfl⟩
instance : Fd Try.prog 113 9 9 5 := ⟨_, _, Try.underlying113, rfl, rfl, rfl⟩
instance : Fd Try.prog 113 10 10 4 := ⟨_, _, Try.underlying113, rfl, rfl, rfl⟩
instance : Fd Try.prog 113 11 11 4 := ⟨_, _, Try.underlying113, rfl, rfl, rfl⟩
instance : Fd Try.prog 113 12 12 5 := ⟨_, _, Try.underlying113, rfl, rfl, rfl⟩
instance : Inf Try.prog 114 (.agg #[(.bool false), (.bool false), (.int .u8 0), (.bool false), (.bool false), (.int .u16 0), (.bool false), (.int .u8 0), (.bool false), (.int .u8 0), (.bool false), (.bool false), (.int .u8 0)]) 13 16 := Inf.of (by kernel_rfl) rfl
instance : Ta Try.prog 114 true := ⟨Try.isAgg114⟩
instance : Pl Try.prog 114 [(0, 1), (1, 1), (2, 1), (3, 1), (4, 1), (5, 1), (6, 1), (7, 1), (8, 1), (9, 1), (10, 1), (11, 1), (12, 1)] := ⟨_, Try.underlying114, fun w => by kernel_rfl⟩
instance : Fd Try.prog 114 0 0 4 := ⟨_, _, Try.underlying114, rfl, rfl, rfl⟩
instance : Fd Try.prog 114 1 1 4 := ⟨_, _, Try.underlying114, rfl, rfl, rfl⟩
instance : Fd Try.prog 114 2 2 5 := ⟨_, _, Try.underlying114, rfl, rfl, rfl⟩
instance : Fd Try.prog 114 3 3 4 := ⟨_, _, Try.underlying114, rfl, rfl, rfl⟩
instance : Fd Try.prog 114 4 4 4 := ⟨_, _, Try.underlying114, rfl, rfl, rfl⟩
instance : Fd Try.prog 114 5 5 36 := ⟨_, _, Try.underlying114, rfl, rfl, rfl⟩
instance : Fd Try.prog 114 6 6 4 := ⟨_, _, Try.underlying114, rfl, rfl, rfl⟩
instance : Fd Try.prog 114 7 7 5 := ⟨_, _, Try.underlying114, rfl, rfl, rfl⟩
instance : Fd Try.prog 114 8 8 4 := ⟨_, _, Try.underlying114, rfl, rfl, rfl⟩
instance : Fd Try.prog 114 9 9 5 := ⟨_, _, Try.underlying114, rfl, rfl, rfl⟩
instance : Fd Try.prog 114 10 10 4 := ⟨_, _, Try.underlying114, rfl, rfl, rfl⟩
instance : Fd Try.prog 114 11 11 4 := ⟨_, _, Try.underlying114, rfl, rfl, rfl⟩
instance : Fd Try.prog 114 12 12 5 := ⟨_, _, Try.underlying114, rfl, rfl, rfl⟩
instance : Inf Try.prog 115 (.agg #[(.bool false), (.bool false), (.int .u8 0), (.bool false), (.bool false), (.int .u16 0), (.bool false), (.int .u8 0), (.bool false), (.int .u8 0), (.bool false), (.bool false), (.int .u8 0), (.slice none 0 0)]) 14 40 := Inf.of (by kernel_rfl) rfl
instance : Ta Try.prog 115 true := ⟨Try.isAgg115⟩
instance : Pl Try.prog 115 [(0, 13), (13, 1)] := ⟨_, Try.underlying115, fun w => by kernel_rfl⟩
instance : Fd Try.prog 115 0 0 114 := ⟨_, _, Try.underlying115, rfl, rfl, rfl⟩
instance : Fd Try.prog 115 1 13 92 := ⟨_, _, Try.underlying115, rfl, rfl, rfl⟩
instance : Inf Try.prog 116 (.agg #[(.bool false), (.bool false), (.int .u8 0), (.bool false), (.bool false), (.int .u16 0), (.bool false), (.int .u8 0), (.bool false), (.int .u8 0), (.bool false), (.bool false), (.int .u8 0), (.slice none 0 0)]) 14 40 := Inf.of (by kernel_rfl) rfl
instance : Ta Try.prog 116 true := ⟨Try.isAgg116⟩
instance : Pl Try.prog 116 [(0, 13), (13, 1)] := ⟨_, Try.underlying116, fun w => by kernel_rfl⟩
instance : Fd Try.prog 116 0 0 114 := ⟨_, _, Try.underlying116, rfl, rfl, rfl⟩
instance : Fd Try.prog 116 1 13 92 := ⟨_, _, Try.underlying116, rfl, rfl, rfl⟩
instance : Inf Try.prog 117 .nilFunc 1 8 := Inf.of (by kernel_rfl) rfl
instance : Ta Try.prog 117 false := ⟨Try.isAgg117⟩
instance : Inf Try.prog 118 .nilFunc 1 8 := Inf.of (by kernel_rfl) rfl
instance : Ta Try.prog 118 false := ⟨Try.isAgg118⟩
instance : Inf Try.prog 119 .nilFunc 1 8 := Inf.of (by kernel_rfl) rfl
instance : Ta Try.prog 119 false := ⟨Try.isAgg119⟩
instance : Inf Try.prog 120 .nilFunc 1 8 := Inf.of (by kernel_rfl) rfl
instance : Ta Try.prog 120 false := ⟨Try.isAgg120⟩
instance : Inf Try.prog 121 .nilFunc 1 8 := Inf.of (by kernel_rfl) rfl
instance : Ta Try.prog 121 false := ⟨Try.isAgg121⟩
instance : Inf Try.prog 122 .nilFunc 1 8 := Inf.of (by kernel_rfl) rfl
instance : Ta Try.prog 122 false := ⟨Try.isAgg122⟩
instance : Inf Try.prog 123 .nilFunc 1 8 := Inf.of (by kernel_rfl) rfl
instance : Ta Try.prog 123 false := ⟨Try.isAgg123⟩
instance : Inf Try.prog 124 .nilFunc 1 8 := Inf.of (by kernel_rfl) rfl
instance : Ta Try.prog 124 false := ⟨Try.isAgg124⟩
instance : Inf Try.prog 125 (.slice none 0 0) 1 24 := Inf.of (by kernel_rfl) rfl
instance : Ta Try.prog 125 false := ⟨Try.isAgg125⟩
instance : Sl Try.prog 125 129 := ⟨Try.underlying125⟩
instance : Inf Try.prog 126 (.agg #[(.int .i64 0), (.slice none 0 0)]) 2 32 := Inf.of (by kernel_rfl) rfl
instance : Ta Try.prog 126 true := ⟨Try.isAgg126⟩
instance : Pl Try.prog 126 [(0, 1), (1, 1)] := ⟨_, Try.underlying126, fun w => by kernel_rfl⟩
instance : Fd Try.prog 126 0 0 106 := ⟨_, _, Try.underlying126, rfl, rfl, rfl⟩
instance : Fd Try.prog 126 1 1 125 := ⟨_, _, Try.underlying126, rfl, rfl, rfl⟩
instance : Inf Try.prog 127 (.agg #[(.int .i64 0), (.slice none 0 0)]) 2 32 := Inf.of (by kernel_rfl) rfl
instance : Ta Try.prog 127 true := ⟨Try.isAgg127⟩
instance : Pl Try.prog 127 [(0, 1), (1, 1)] := ⟨_, Try.underlying127, fun w => by kernel_rfl⟩
instance : Fd Try.prog 127 0 0 106 := ⟨_, _, Try.underlying127, rfl, rfl, rfl⟩
instance : Fd Try.prog 127 1 1 125 := ⟨_, _, Try.underlying127, rfl, rfl, rfl⟩
instance : Inf Try.prog 128 (.agg #[(.int .u16 0), (.slice none 0 0)]) 2 32 := Inf.of (by kernel_rfl) rfl
instance : Ta Try.prog 128 true := ⟨Try.isAgg128⟩
instance : Pl Try.prog 128 [(0, 1), (1, 1)] := ⟨_, Try.underlying128, fun w => by kernel_rfl⟩
instance : Fd Try.prog 128 0 0 36 := ⟨_, _, Try.underlying128, rfl, rfl, rfl⟩
instance : Fd Try.prog 128 1 1 92 := ⟨_, _, Try.underlying128, rfl, rfl, rfl⟩
instance : Inf Try.prog 129 (.agg #[(.int .u16 0), (.slice none 0 0)]) 2 32 := Inf.of (by kernel_rfl) rfl
instance : Ta Try.prog 129 true := ⟨Try.isAgg129⟩
instance : Pl Try.prog 129 [(0, 1), (1, 1)] := ⟨_, Try.underlying129, fun w => by kernel_rfl⟩
instance : Fd Try.prog 129 0 0 36 := ⟨_, _, Try.underlying129, rfl, rfl, rfl⟩
instance : Fd Try.prog 129 1 1 92 := ⟨_, _, Try.underlying129, rfl, rfl, rfl⟩
instance : Inf Try.prog 130 .nilFunc 1 8 := Inf.of (by kernel_rfl) rfl
instance : Ta Try.prog 130 false := ⟨Try.isAgg130⟩
instance : Inf Try.prog 131 .nilFunc 1 8 := Inf.of (by kernel_rfl) rfl
instance : Ta Try.prog 131 false := ⟨Try.isAgg131⟩
instance : Inf Try.prog 132 .nilFunc 1 8 := Inf.of (by kernel_rfl) rfl
instance : Ta Try.prog 132 false := ⟨Try.isAgg132⟩
instance : Inf Try.prog 133 .nilFunc 1 8 := Inf.of (by kernel_rfl) rfl
instance : Ta Try.prog 133 false := ⟨Try.isAgg133⟩
instance : Inf Try.prog 135 .nilFunc 1 8 := Inf.of (by kernel_rfl) rfl
instance : Ta Try.prog 135 false := ⟨Try.isAgg135⟩
instance : Inf Try.prog 136 .nilFunc 1 8 := Inf.of (by kernel_rfl) rfl
instance : Ta Try.prog 136 false := ⟨Try.isAgg136⟩
instance : Inf Try.prog 137 .nilFunc 1 8 := Inf.of (by kernel_rfl) rfl
instance : Ta Try.prog 137 false := ⟨Try.isAgg137⟩
instance : Inf Try.prog 138 (.agg #[(.bool false), (.bool false), (.int .u8 0), (.bool false), (.bool false), (.int .u16 0), (.bool false), (.int .u8 0), (.bool false), (.int .u8 0), (.bool false), (.bool false), (.int .u8 0)]) 13 16 := Inf.of (by kernel_rfl) rfl
instance : Ta Try.prog 138 true := ⟨Try.isAgg138⟩
instance : Pl Try.prog 138 [(0, 1), (1, 1), (2, 1), (3, 1), (4, 1), (5, 1), (6, 1), (7, 1), (8, 1), (9, 1), (10, 1), (11, 1), (12, 1)] := ⟨_, Try.underlying138, fun w => by kernel_rfl⟩
instance : Fd Try.prog 138 0 0 4 := ⟨_, _, Try.underlying138, rfl, rfl, rfl⟩
instance : Fd Try.prog 138 1 1 4 := ⟨_, _, Try.underlying138, rfl, rfl, rfl⟩
instance : Fd Try.prog 138 2 2 5 := ⟨_, _, Try.underlying138, rfl, rfl, rfl⟩
instance : Fd Try.prog 138 3 3 4 := ⟨_, _, Try.underlying138, rfl, rfl, rfl⟩
instance : Fd Try.prog 138 4 4 4 := ⟨_, _, Try.underlying138, rfl, rfl, rfl⟩
instance : Fd Try.prog 138 5 5 36 := ⟨_, _, Try.underlying138, rfl, rfl, rfl⟩
instance : Fd Try.prog 138 6 6 4 := ⟨_, _, Try.underlying138, rfl, rfl, rfl⟩
instance : Fd Try.prog 138 7 7 5 := ⟨_, _, Try.underlying138, rfl, rfl, rfl⟩
instance : Fd Try.prog 138 8 8 4 := ⟨_, _, Try.underlying138, rfl, rfl, rfl⟩
instance : Fd Try.prog 138 9 9 5 := ⟨_, _, Try.underlying138, rfl, rfl, rfl⟩
instance : Fd Try.prog 138 10 10 4 := ⟨_, _, Try.underlying138, rfl, rfl, rfl⟩
instance : Fd Try.prog 138 11 11 4 := ⟨_, _, Try.underlying138, rfl, rfl, rfl⟩
instance : Fd Try.prog 138 12 12 5 := ⟨_, _, Try.underlying138, rfl, rfl, rfl⟩
instance : Inf Try.prog 139 (.agg #[(.bool false), (.bool false), (.int .u8 0), (.bool false), (.bool false), (.int .u16 0), (.bool false), (.int .u8 0), (.bool false), (.int .u8 0), (.bool false), (.bool false), (.int .u8 0), (.slice none 0 0)]) 14 40 := Inf.of (by kernel_rfl) rfl
instance : Ta Try.prog 139 true := ⟨Try.isAgg139⟩
instance : Pl Try.prog 139 [(0, 13), (13, 1)] := ⟨_, Try.underlying139, fun w => by kernel_rfl⟩
instance : Fd Try.prog 139 0 0 138 := ⟨_, _, Try.underlying139, rfl, rfl, rfl⟩
instance : Fd Try.prog 139 1 13 92 := ⟨_, _, Try.underlying139, rfl, rfl, rfl⟩
instance : Inf Try.prog 140 (.agg #[(.bool false), (.bool false), (.int .u8 0), (.bool false), (.bool false), (.int .u16 0), (.bool false), (.int .u8 0), (.bool false), (.int .u8 0), (.bool false), (.bool false), (.int .u8 0), (.slice none 0 0)]) 14 40 := Inf.of (by kernel_rfl) rfl
instance : Ta Try.prog 140 true := ⟨Try.isAgg140⟩
instance : Pl Try.prog 140 [(0, 13), (13, 1)] := ⟨_, Try.underlying140, fun w => by kernel_rfl⟩
instance : Fd Try.prog 140 0 0 138 := ⟨_, _, Try.underlying140, rfl, rfl, rfl⟩
instance : Fd Try.prog 140 1 13 92 := ⟨_, _, Try.underlying140, rfl, rfl, rfl⟩
instance : Inf Try.prog 141 .nilFunc 1 8 := Inf.of (by kernel_rfl) rfl
instance : Ta Try.prog 141 false := ⟨Try.isAgg141⟩
instance : Inf Try.prog 142 .nilFunc 1 8 := Inf.of (by kernel_rfl) rfl
instance : Ta Try.prog 142 false := ⟨Try.isAgg142⟩
instance : Inf Try.prog 143 .nilFunc 1 8 := Inf.of (by kernel_rfl) rfl
instance : Ta Try.prog 143 false := ⟨Try.isAgg143⟩
instance : Inf Try.prog 144 .nilFunc 1 8 := Inf.of (by kernel_rfl) rfl
instance : Ta Try.prog 144 false := ⟨Try.isAgg144⟩
instance : Inf Try.prog 145 .nilFunc 1 8 := Inf.of (by kernel_rfl) rfl
instance : Ta Try.prog 145 false := ⟨Try.isAgg145⟩
instance : Inf Try.prog 146 .nilFunc 1 8 := Inf.of (by kernel_rfl) rfl
instance : Ta Try.prog 146 false := ⟨Try.isAgg146⟩
instance : Inf Try.prog 147 .nilFunc 1 8 := Inf.of (by kernel_rfl) rfl
instance : Ta Try.prog 147 false := ⟨Try.isAgg147⟩
instance : Inf Try.prog 148 (.agg #[(.pointer none), (.pointer none), (.pointer none), (.string ⟨#[]⟩)]) 4 40 := Inf.of (by kernel_rfl) rfl
instance : Ta Try.prog 148 true := ⟨Try.isAgg148⟩
instance : Pl Try.prog 148 [(0, 1), (1, 1), (2, 1), (3, 1)] := ⟨_, Try.underlying148, fun w => by kernel_rfl⟩
instance : Fd Try.prog 148 0 0 17 := ⟨_, _, Try.underlying148, rfl, rfl, rfl⟩
instance : Fd Try.prog 148 1 1 17 := ⟨_, _, Try.underlying148, rfl, rfl, rfl⟩
instance : Fd Try.prog 148 2 2 17 := ⟨_, _, Try.underlying148, rfl, rfl, rfl⟩
instance : Fd Try.prog 148 3 3 9 := ⟨_, _, Try.underlying148, rfl, rfl, rfl⟩
instance : Inf Try.prog 149 (.agg #[(.pointer none), (.pointer none), (.pointer none), (.string ⟨#[]⟩)]) 4 40 := Inf.of (by kernel_rfl) rfl
instance : Ta Try.prog 149 true := ⟨Try.isAgg149⟩
instance : Pl Try.prog 149 [(0, 1), (1, 1), (2, 1), (3, 1)] := ⟨_, Try.underlying149, fun w => by kernel_rfl⟩
instance : Fd Try.prog 149 0 0 17 := ⟨_, _, Try.underlying149, rfl, rfl, rfl⟩
instance : Fd Try.prog 149 1 1 17 := ⟨_, _, Try.underlying149, rfl, rfl, rfl⟩
instance : Fd Try.prog 149 2 2 17 := ⟨_, _, Try.underlying149, rfl, rfl, rfl⟩
instance : Fd Try.prog 149 3 3 9 := ⟨_, _, Try.underlying149, rfl, rfl, rfl⟩
instance : Inf Try.prog 150 (.agg #[]) 0 0 := Inf.of (by kernel_rfl) rfl
instance : Ta Try.prog 150 true := ⟨Try.isAgg150⟩
instance : Ar Try.prog 150 0 16 := ⟨Try.underlying150⟩
instance : Inf Try.prog 151 (.agg #[]) 0 0 := Inf.of (by kernel_rfl) rfl
instance : Ta Try.prog 151 true := ⟨Try.isAgg151⟩
instance : Pl Try.prog 151 [(0, 0)] := ⟨_, Try.underlying151, fun w => by kernel_rfl⟩
instance : Fd Try.prog 151 0 0 150 := ⟨_, _, Try.underlying151, rfl, rfl, rfl⟩
instance : Inf Try.prog 152 (.agg #[]) 0 0 := Inf.of (by kernel_rfl) rfl
instance : Ta Try.prog 152 true := ⟨Try.isAgg152⟩
instance : Pl Try.prog 152 [(0, 0)] := ⟨_, Try.underlying152, fun w => by kernel_rfl⟩
instance : Fd Try.prog 152 0 0 150 := ⟨_, _, Try.underlying152, rfl, rfl, rfl⟩
instance : Inf Try.prog 153 (.int .u8 0) 1 1 := Inf.of (by kernel_rfl) rfl
instance : Ta Try.prog 153 false := ⟨Try.isAgg153⟩
instance : Ik Try.prog 153 .u8 := ⟨Try.underlying153⟩
instance : Inf Try.prog 154 (.int .u8 0) 1 1 := Inf.of (by kernel_rfl) rfl
instance : Ta Try.prog 154 false := ⟨Try.isAgg154⟩
instance : Ik Try.prog 154 .u8 := ⟨Try.underlying154⟩
instance : Inf Try.prog 155 .nilFunc 1 8 := Inf.of (by kernel_rfl) rfl
instance : Ta Try.prog 155 false := ⟨Try.isAgg155⟩
instance : Inf Try.prog 156 (.pointer none) 1 8 := Inf.of (by kernel_rfl) rfl
instance : Ta Try.prog 156 false := ⟨Try.isAgg156⟩
instance : Pn Try.prog 156 5 := ⟨Try.underlying156⟩
instance : Inf Try.prog 157 (.int .i32 0) 1 4 := Inf.of (by kernel_rfl) rfl
instance : Ta Try.prog 157 false := ⟨Try.isAgg157⟩
instance : Ik Try.prog 157 .i32 := ⟨Try.underlying157⟩
instance : Inf Try.prog 158 (.int .i32 0) 1 4 := Inf.of (by kernel_rfl) rfl
instance : Ta Try.prog 158 false := ⟨Try.isAgg158⟩
instance : Ik Try.prog 158 .i32 := ⟨Try.underlying158⟩
instance : Inf Try.prog 159 (.agg #[(.int .u64 0), (.int .u64 0), (.int .u32 0), (.int .u8 0), (.int .u8 0), (.int .u8 0), (.int .u8 0), .nilFunc, (.pointer none), (.int .i32 0), (.int .i32 0)]) 11 48 := Inf.of (by kernel_rfl) rfl
instance : Ta Try.prog 159 true := ⟨Try.isAgg159⟩
instance : Pl Try.prog 159 [(0, 1), (1, 1), (2, 1), (3, 1), (4, 1), (5, 1), (6, 1), (7, 1), (8, 1), (9, 1), (10, 1)] := ⟨_, Try.underlying159, fun w => by kernel_rfl⟩
instance : Fd Try.prog 159 0 0 12 := ⟨_, _, Try.underlying159, rfl, rfl, rfl⟩
instance : Fd Try.prog 159 1 1 12 := ⟨_, _, Try.underlying159, rfl, rfl, rfl⟩
instance : Fd Try.prog 159 2 2 35 := ⟨_, _, Try.underlying159, rfl, rfl, rfl⟩
instance : Fd Try.prog 159 3 3 153 := ⟨_, _, Try.underlying159, rfl, rfl, rfl⟩
instance : Fd Try.prog 159 4 4 5 := ⟨_, _, Try.underlying159, rfl, rfl, rfl⟩
instance : Fd Try.prog 159 5 5 5 := ⟨_, _, Try.underlying159, rfl, rfl, rfl⟩
instance : Fd Try.prog 159 6 6 154 := ⟨_, _, Try.underlying159, rfl, rfl, rfl⟩
instance : Fd Try.prog 159 7 7 155 := ⟨_, _, Try.underlying159, rfl, rfl, rfl⟩
instance : Fd Try.prog 159 8 8 156 := ⟨_, _, Try.underlying159, rfl, rfl, rfl⟩
instance : Fd Try.prog 159 9 9 157 := ⟨_, _, Try.underlying159, rfl, rfl, rfl⟩
instance : Fd Try.prog 159 10 10 158 := ⟨_, _, Try.underlying159, rfl, rfl, rfl⟩
instance : Inf Try.prog 160 (.agg #[(.int .u64 0), (.int .u64 0), (.int .u32 0), (.int .u8 0), (.int .u8 0), (.int .u8 0), (.int .u8 0), .nilFunc, (.pointer none), (.int .i32 0), (.int .i32 0)]) 11 48 := Inf.of (by kernel_rfl) rfl
instance : Ta Try.prog 160 true := ⟨Try.isAgg160⟩
instance : Pl Try.prog 160 [(0, 1), (1, 1), (2, 1), (3, 1), (4, 1), (5, 1), (6, 1), (7, 1), (8, 1), (9, 1), (10, 1)] := ⟨_, Try.underlying160, fun w => by kernel_rfl⟩
instance : Fd Try.prog 160 0 0 12 := ⟨_, _, Try.underlying160, rfl, rfl, rfl⟩
instance : Fd Try.prog 160 1 1 12 := ⟨_, _, Try.underlying160, rfl, rfl, rfl⟩
instance : Fd Try.prog 160 2 2 35 := ⟨_, _, Try.underlying160, rfl, rfl, rfl⟩
instance : Fd Try.prog 160 3 3 153 := ⟨_, _, Try.underlying160, rfl, rfl, rfl⟩
instance : Fd Try.prog 160 4 4 5 := ⟨_, _, Try.underlying160, rfl, rfl, rfl⟩
instance : Fd Try.prog 160 5 5 5 := ⟨_, _, Try.underlying160, rfl, rfl, rfl⟩
instance : Fd Try.prog 160 6 6 154 := ⟨_, _, Try.underlying160, rfl, rfl, rfl⟩
instance : Fd Try.prog 160 7 7 155 := ⟨_, _, Try.underlying160, rfl, rfl, rfl⟩
instance : Fd Try.prog 160 8 8 156 := ⟨_, _, Try.underlying160, rfl, rfl, rfl⟩
instance : Fd Try.prog 160 9 9 157 := ⟨_, _, Try.underlying160, rfl, rfl, rfl⟩
instance : Fd Try.prog 160 10 10 158 := ⟨_, _, Try.underlying160, rfl, rfl, rfl⟩
instance : Inf Try.prog 161 .nilFunc 1 8 := Inf.of (by kernel_rfl) rfl
instance : Ta Try.prog 161 false := ⟨Try.isAgg161⟩
instance : Inf Try.prog 162 (.pointer none) 1 8 := Inf.of (by kernel_rfl) rfl
instance : Ta Try.prog 162 false := ⟨Try.isAgg162⟩
instance : Inf Try.prog 163 (.slice none 0 0) 1 24 := Inf.of (by kernel_rfl) rfl
instance : Ta Try.prog 163 false := ⟨Try.isAgg163⟩
instance : Sl Try.prog 163 35 := ⟨Try.underlying163⟩
instance : Inf Try.prog 164 (.agg #[(.bool false), (.int .u8 0), (.int .u16 0), (.int .u32 0), (.int .u32 0), (.slice none 0 0), (.bool false), (.int .u16 0), (.slice none 0 0), (.slice none 0 0), (.int .u8 0)]) 11 104 := Inf.of (by kernel_rfl) rfl
instance : Ta Try.prog 164 true := ⟨Try.isAgg164⟩
instance : Pl Try.prog 164 [(0, 1), (1, 1), (2, 1), (3, 1), (4, 1), (5, 1), (6, 1), (7, 1), (8, 1), (9, 1), (10, 1)] := ⟨_, Try.underlying164, fun w => by kernel_rfl⟩
instance : Fd Try.prog 164 0 0 4 := ⟨_, _, Try.underlying164, rfl, rfl, rfl⟩
instance : Fd Try.prog 164 1 1 5 := ⟨_, _, Try.underlying164, rfl, rfl, rfl⟩
instance : Fd Try.prog 164 2 2 36 := ⟨_, _, Try.underlying164, rfl, rfl, rfl⟩
instance : Fd Try.prog 164 3 3 35 := ⟨_, _, Try.underlying164, rfl, rfl, rfl⟩
instance : Fd Try.prog 164 4 4 35 := ⟨_, _, Try.underlying164, rfl, rfl, rfl⟩
instance : Fd Try.prog 164 5 5 163 := ⟨_, _, Try.underlying164, rfl, rfl, rfl⟩
instance : Fd Try.prog 164 6 6 4 := ⟨_, _, Try.underlying164, rfl, rfl, rfl⟩
instance : Fd Try.prog 164 7 7 36 := ⟨_, _, Try.underlying164, rfl, rfl, rfl⟩
instance : Fd Try.prog 164 8 8 92 := ⟨_, _, Try.underlying164, rfl, rfl, rfl⟩
instance : Fd Try.prog 164 9 9 92 := ⟨_, _, Try.underlying164, rfl, rfl, rfl⟩
instance : Fd Try.prog 164 10 10 5 := ⟨_, _, Try.underlying164, rfl, rfl, rfl⟩
instance : Inf Try.prog 165 (.agg #[(.bool false), (.int .u8 0), (.int .u16 0), (.int .u32 0), (.int .u32 0), (.slice none 0 0), (.bool false), (.int .u16 0), (.slice none 0 0), (.slice none 0 0), (.int .u8 0)]) 11 104 := Inf.of (by kernel_rfl) rfl
instance : Ta Try.prog 165 true := ⟨Try.isAgg165⟩
instance : Pl Try.prog 165 [(0, 1), (1, 1), (2, 1), (3, 1), (4, 1), (5, 1), (6, 1), (7, 1), (8, 1), (9, 1), (10, 1)] := ⟨_, Try.underlying165, fun w => by kernel_rfl⟩
instance : Fd Try.prog 165 0 0 4 := ⟨_, _, Try.underlying165, rfl, rfl, rfl⟩
instance : Fd Try.prog 165 1 1 5 := ⟨_, _, Try.underlying165, rfl, rfl, rfl⟩
instance : Fd Try.prog 165 2 2 36 := ⟨_, _, Try.underlying165, rfl, rfl, rfl⟩
instance : Fd Try.prog 165 3 3 35 := ⟨_, _, Try.underlying165, rfl, rfl, rfl⟩
instance : Fd Try.prog 165 4 4 35 := ⟨_, _, Try.underlying165, rfl, rfl, rfl⟩
instance : Fd Try.prog 165 5 5 163 := ⟨_, _, Try.underlying165, rfl, rfl, rfl⟩
instance : Fd Try.prog 165 6 6 4 := ⟨_, _, Try.underlying165, rfl, rfl, rfl⟩
instance : Fd Try.prog 165 7 7 36 := ⟨_, _, Try.underlying165, rfl, rfl, rfl⟩
instance : Fd Try.prog 165 8 8 92 := ⟨_, _, Try.underlying165, rfl, rfl, rfl⟩
instance : Fd Try.prog 165 9 9 92 := ⟨_, _, Try.underlying165, rfl, rfl, rfl⟩
instance : Fd Try.prog 165 10 10 5 := ⟨_, _, Try.underlying165, rfl, rfl, rfl⟩
instance : Cf Try.prog 2 := ⟨Try.call2⟩
instance : Cf Try.prog 3 := ⟨Try.call3⟩
instance : Cf Try.prog 4 := ⟨Try.call4⟩
instance : Cf Try.prog 5 := ⟨Try.call5⟩
instance : Cf Try.prog 6 := ⟨Try.call6⟩
instance : Cf Try.prog 7 := ⟨Try.call7⟩
instance : Cf Try.prog 8 := ⟨Try.call8⟩
instance : Cf Try.prog 9 := ⟨Try.call9⟩
instance : Cf Try.prog 10 := ⟨Try.call10⟩
instance : Cf Try.prog 11 := ⟨Try.call11⟩
instance : Cf Try.prog 12 := ⟨Try.call12⟩
instance : Cf Try.prog 13 := ⟨Try.call13⟩
instance : Cf Try.prog 14 := ⟨Try.call14⟩
instance : Cf Try.prog 15 := ⟨Try.call15⟩
instance : Cf Try.prog 16 := ⟨Try.call16⟩
instance : Cf Try.prog 17 := ⟨Try.call17⟩
instance : Cf Try.prog 18 := ⟨Try.call18⟩
instance : Cf Try.prog 19 := ⟨Try.call19⟩
instance : Cf Try.prog 20 := ⟨Try.call20⟩
instance : Cf Try.prog 21 := ⟨Try.call21⟩
instance : Cf Try.prog 22 := ⟨Try.call22⟩
instance : Cf Try.prog 23 := ⟨Try.call23⟩
instance : Cf Try.prog 24 := ⟨Try.call24⟩
instance : Cf Try.prog 25 := ⟨Try.call25⟩
instance : Cf Try.prog 26 := ⟨Try.call26⟩
instance : Cf Try.prog 27 := ⟨Try.call27⟩
instance : Cf Try.prog 28 := ⟨Try.call28⟩
instance : Cf Try.prog 29 := ⟨Try.call29⟩
instance : Cf Try.prog 30 := ⟨Try.call30⟩
instance : Cf Try.prog 31 := ⟨Try.call31⟩
instance : Cf Try.prog 32 := ⟨Try.call32⟩
instance : Cf Try.prog 33 := ⟨Try.call33⟩
instance : Cf Try.prog 34 := ⟨Try.call34⟩
instance : Cf Try.prog 35 := ⟨Try.call35⟩
instance : Cf Try.prog 36 := ⟨Try.call36⟩
instance : Cf Try.prog 37 := ⟨Try.call37⟩
instance : Cf Try.prog 38 := ⟨Try.call38⟩
instance : Cf Try.prog 39 := ⟨Try.call39⟩
instance : Cf Try.prog 40 := ⟨Try.call40⟩
instance : Cf Try.prog 41 := ⟨Try.call41⟩
instance : Cf Try.prog 42 := ⟨Try.call42⟩
instance : Cf Try.prog 43 := ⟨Try.call43⟩
instance : Cf Try.prog 44 := ⟨Try.call44⟩
instance : Cf Try.prog 45 := ⟨Try.call45⟩
instance : Cf Try.prog 46 := ⟨Try.call46⟩
instance : Cf Try.prog 47 := ⟨Try.call47⟩
instance : Cf Try.prog 48 := ⟨Try.call48⟩
instance : Cf Try.prog 49 := ⟨Try.call49⟩
instance : Cf Try.prog 50 := ⟨Try.call50⟩
instance : Cf Try.prog 51 := ⟨Try.call51⟩
instance : Cf Try.prog 52 := ⟨Try.call52⟩
instance : Cf Try.prog 53 := ⟨Try.call53⟩
instance : Cf Try.prog 54 := ⟨Try.call54⟩
instance : Cf Try.prog 55 := ⟨Try.call55⟩
instance : Cf Try.prog 56 := ⟨Try.call56⟩
instance : Cf Try.prog 57 := ⟨Try.call57⟩
instance : Cf Try.prog 58 := ⟨Try.call58⟩
instance : Cf Try.prog 59 := ⟨Try.call59⟩
instance : Cf Try.prog 60 := ⟨Try.call60⟩
instance : Cf Try.prog 61 := ⟨Try.call61⟩
instance : Cf Try.prog 62 := ⟨Try.call62⟩
instance : Cf Try.prog 63 := ⟨Try.call63⟩
instance : Cf Try.prog 64 := ⟨Try.call64⟩
instance : Cf Try.prog 65 := ⟨Try.call65⟩
instance : Cf Try.prog 66 := ⟨Try.call66⟩
instance : Cf Try.prog 67 := ⟨Try.call67⟩
instance : Cf Try.prog 68 := ⟨Try.call68⟩
instance : Cf Try.prog 69 := ⟨Try.call69⟩
instance : Cf Try.prog 70 := ⟨Try.call70⟩
instance : Cf Try.prog 71 := ⟨Try.call71⟩
instance : Cf Try.prog 72 := ⟨Try.call72⟩
instance : Cf Try.prog 73 := ⟨Try.call73⟩
instance : Cf Try.prog 74 := ⟨Try.call74⟩
instance : Cf Try.prog 75 := ⟨Try.call75⟩
instance : Cf Try.prog 76 := ⟨Try.call76⟩
instance : Cf Try.prog 77 := ⟨Try.call77⟩
instance : Cf Try.prog 78 := ⟨Try.call78⟩
instance : Cf Try.prog 79 := ⟨Try.call79⟩
instance : Cf Try.prog 80 := ⟨Try.call80⟩
instance : Cf Try.prog 81 := ⟨Try.call81⟩
instance : Mx Try.prog := ⟨by kernel_rfl⟩
end Go.Proofs.Ytpheiklhjelkcaa.X
/-
  Chapter 19: small functions: rows that are copied, compared, written over; what is told, copied and compared: walks of my own.
-/
namespace Go.Proofs.Ytpheiklhjelkcaa.X
open Go Go.RowKit
set_option linter.unusedVariables false
set_option linter.unusedSimpArgs false
/-- slices.Clone: a row in new memory. -/
theorem xf_clone {W : World} {L : List Blk} (p : Option Addr) (m c : Nat) (xs : List Value) (hx : xs.length = m * 1) (hr : Rs W L p xs) (h1 : xs.all (·.oneCell') = true) (hm : m ≤ 1000000000) : XF Try.prog W 54 #[.slice p m c] L (fun v L' => ∃ q k l, v = .slice q m k ∧ SlO 1 5 (.slice q m k) m xs l ∧ m ≤ k ∧ L' = l ++ L) := by
  refine xf_enter (args := [_]) Try.func54 rfl Try.ntmps54 rfl ?_
  cases p with
  | none =>
    have h0 := hr.none_nil
    subst h0
    have hm0 : m = 0 := by simp at hx; omega
    subst hm0
    focus
      refine xc_seq ?_
      refine xc_region ?_
      refine xo_rd (rd_assign rfl) rfl ?_
      refine xo_nil ?_
      refine xq_seq ?_
      refine xc_seq ?_
      refine xc_seq ?_
      refine xc_region ?_
      refine xo_rd (rd_move rfl) rfl ?_
      refine xo_rd (rd_eqnilS rfl) rfl ?_
      refine xo_nil ?_
      refine xq_seq ?_
      refine xc_condt rfl ?_
      refine xc_seq ?_
      refine xc_region ?_
      refine xo_rd (rd_assign rfl) rfl ?_
      refine xo_nil ?_
      refine xq_seq ?_
      refine xc_ret ?_
      refine xq_then_ret ?_
    exact xq_ret1 (.inl rfl) Try.results54 rfl ⟨none, 0, [], rfl, SlO.nil, Nat.le_refl _, rfl⟩
  | some a =>
    focus
      refine xc_seq ?_
      refine xc_region ?_
      refine xo_rd (rd_assign rfl) rfl ?_
      refine xo_nil ?_
      refine xq_seq ?_
      refine xc_seq ?_
      refine xc_seq ?_
      refine xc_region ?_
      refine xo_rd (rd_move rfl) rfl ?_
      refine xo_rd (rd_eqnilS rfl) rfl ?_
      refine xo_nil ?_
      refine xq_seq ?_
      refine xc_condf rfl ?_
      refine xc_skip ?_
      refine xq_seq ?_
      refine xc_seq ?_
      refine xc_region ?_
      refine xo_ef rfl (ef_slice0 fun r5 => ?_)
      refine xo_rd (rd_move rfl) rfl ?_
    refine xo_ef rfl (ef_append [] L [_] rfl rfl SlO.zero rfl hr.skip hx h1 (by decide) (by omega) (by omega) fun v' l' hO => ?_)
    rw [Nat.zero_add, List.nil_append] at hO
    obtain ⟨q, k, rfl, hO, _⟩ := hO.opn
    focus
      refine xo_rd (rd_assign rfl) rfl ?_
      refine xo_nil ?_
      refine xq_seq ?_
      refine xc_ret ?_
    exact xq_ret1 (.inl rfl) Try.results54 rfl ⟨q, k, l', rfl, hO, hO.cap.2, rfl⟩
/-- slices.Clone: a row in new memory. -/
theorem xf_cloneP {W : World} {L : List Blk} (p : Option Addr) (m c : Nat) (xs : List Value) (hx : xs.length = m * 14) (hr : Rs W L p xs) (h1 : xs.all (·.oneCell') = true) (hm : m ≤ 1000000000) : XF Try.prog W 53 #[.slice p m c] L (fun v L' => ∃ q k l, v = .slice q m k ∧ SlO 14 116 (.slice q m k) m xs l ∧ m ≤ k ∧ L' = l ++ L) := by
  refine xf_enter (args := [_]) Try.func53 rfl Try.ntmps53 rfl ?_
  cases p with
  | none =>
    have h0 := hr.none_nil
    subst h0
    have hm0 : m = 0 := by simp at hx; omega
    subst hm0
    focus
      refine xc_seq ?_
      refine xc_region ?_
      refine xo_rd (rd_assign rfl) rfl ?_
      refine xo_nil ?_
      refine xq_seq ?_
      refine xc_seq ?_
      refine xc_seq ?_
      refine xc_region ?_
      refine xo_rd (rd_move rfl) rfl ?_
      refine xo_rd (rd_eqnilS rfl) rfl ?_
      refine xo_nil ?_
      refine xq_seq ?_
      refine xc_condt rfl ?_
      refine xc_seq ?_
      refine xc_region ?_
      refine xo_rd (rd_assign rfl) rfl ?_
      refine xo_nil ?_
      refine xq_seq ?_
      refine xc_ret ?_
      refine xq_then_ret ?_
    exact xq_ret1 (.inl rfl) Try.results53 rfl ⟨none, 0, [], rfl, SlO.nil, Nat.le_refl _, rfl⟩
  | some a =>
    focus
      refine xc_seq ?_
      refine xc_region ?_
      refine xo_rd (rd_assign rfl) rfl ?_
      refine xo_nil ?_
      refine xq_seq ?_
      refine xc_seq ?_
      refine xc_seq ?_
      refine xc_region ?_
      refine xo_rd (rd_move rfl) rfl ?_
      refine xo_rd (rd_eqnilS rfl) rfl ?_
      refine xo_nil ?_
      refine xq_seq ?_
      refine xc_condf rfl ?_
      refine xc_skip ?_
      refine xq_seq ?_
      refine xc_seq ?_
      refine xc_region ?_
      refine xo_ef rfl (ef_slice0 fun r5 => ?_)
      refine xo_rd (rd_move rfl) rfl ?_
    refine xo_ef rfl (ef_append [] L [_] rfl rfl SlO.zero rfl hr.skip hx h1 (by decide) (by omega) (by omega) fun v' l' hO => ?_)
    rw [Nat.zero_add, List.nil_append] at hO
    obtain ⟨q, k, rfl, hO, _⟩ := hO.opn
    focus
      refine xo_rd (rd_assign rfl) rfl ?_
      refine xo_nil ?_
      refine xq_seq ?_
      refine xc_ret ?_
    exact xq_ret1 (.inl rfl) Try.results53 rfl ⟨q, k, l', rfl, hO, hO.cap.2, rfl⟩
/-- easelkit's Own: a row, in new memory. -/
theorem xf_own {W : World} {L : List Blk} (p : Option Addr) (m c : Nat) (xs : List Value) (hx : xs.length = m * 1) (hr : Rs W L p xs) (h1 : xs.all (·.oneCell') = true) (hm : m ≤ 1000000000) : XF Try.prog W 75 #[.slice p m c] L (fun v L' => ∃ q k l, v = .slice q m k ∧ SlO 1 5 (.slice q m k) m xs l ∧ m ≤ k ∧ L' = l ++ L) := by
  refine xf_enter (args := [_]) Try.func75 rfl Try.ntmps75 rfl ?_
  focus
    refine xc_seq ?_
    refine xc_region ?_
    refine xo_rd (rd_assign rfl) rfl ?_
    refine xo_nil ?_
    refine xq_seq ?_
    refine xc_seq ?_
    refine xc_region ?_
    refine xo_rd (rd_assign rfl) rfl ?_
    refine xo_nil ?_
    refine xq_seq ?_
    refine xc_seq ?_
    refine xc_region ?_
    refine xo_rd (rd_move rfl) rfl ?_
    refine xo_rd (rd_move rfl) rfl ?_
  refine xo_ef rfl (ef_append [] L [] rfl rfl SlO.nil rfl hr hx h1 (by decide) (by omega) (by omega) fun v' l' hO => ?_)
  rw [Nat.zero_add, List.nil_append] at hO
  obtain ⟨q, k, rfl, hO, _⟩ := hO.opn
  focus
    refine xo_rd (rd_assign rfl) rfl ?_
    refine xo_nil ?_
    refine xq_seq ?_
    refine xc_ret ?_
  exact xq_ret1 (.inl rfl) Try.results75 rfl ⟨q, k, l', rfl, hO, hO.cap.2, rfl⟩
/-- easelkit's SameBytes (and its like): are two rows the same? -/
theorem xf_rsamebytes {W : World} {L : List Blk} (p q : Option Addr) (m m' c c' : Nat) (xs ys : List Int) (hx : xs.length = m) (hy : ys.length = m') (hr : Rs W L p (ints .u8 xs)) (hs : Rs W L q (ints .u8 ys)) (hm : m ≤ 1000000000) : XF Try.prog W 72 #[.slice p m c, .slice q m' c'] L (fun v L' => v = .bool (decide (xs = ys)) ∧ L' = L) := by
  refine xf_enter (args := [_, _]) Try.func72 rfl Try.ntmps72 rfl ?_
  focus
    refine xc_seq ?_
    refine xc_region ?_
    refine xo_rd (rd_assign rfl) rfl ?_
    refine xo_nil ?_
    refine xq_seq ?_
    refine xc_seq ?_
    refine xc_seq ?_
    refine xc_region ?_
    refine xo_rd (rd_move rfl) rfl ?_
    refine xo_rd (rd_len rfl) rfl ?_
    refine xo_rd (rd_move rfl) rfl ?_
    refine xo_rd (rd_len rfl) rfl ?_
    refine xo_rd (rd_neq rfl rfl) rfl ?_
    refine xo_nil ?_
    refine xq_seq ?_
    refine xc_ndec rfl (fun h1 => ?_) (fun h1 => ?_)
    refine xc_seq ?_
    refine xc_region ?_
    refine xo_rd (rd_assign rfl) rfl ?_
    refine xo_nil ?_
    refine xq_seq ?_
    refine xc_ret ?_
    refine xq_then_ret ?_
    rotate_left
    refine xc_skip ?_
    refine xq_seq ?_
    refine xc_seq ?_
    refine xc_seq ?_
    refine xc_region ?_
    refine xo_rd (rd_assign rfl) rfl ?_
    refine xo_nil ?_
    refine xq_seq ?_
    refine xc_block ?_
    rotate_left
  · refine xq_ret1 (.inl rfl) Try.results72 rfl ⟨?_, rfl⟩
    rw [decide_eq_false (fun e => by subst e; omega)]
  · have hmm : m' = m := by omega
    subst hmm
    refine xc_loopI (ι := Nat) (fun k => k ≤ m' ∧ xs.take k = ys.take k) (fun k => m' - k) (fun _ => L) (fun k => [(0, .slice p m' c), (1, .slice q m' c'), (5, .int .i64 k)]) 0 ⟨Nat.zero_le _, by simp⟩ rfl (by repeat (first | exact keep_nil | refine keep_cons rfl ?_)) ?_
    rintro k ⟨hk, he⟩
    focus
      refine xc_seq ?_
      refine xc_seq ?_
      refine xc_region ?_
      refine xo_rd (rd_move rfl) rfl ?_
      refine xo_rd (rd_move rfl) rfl ?_
      refine xo_rd (rd_len rfl) rfl ?_
      refine xo_rd (rd_lss rfl rfl) rfl ?_
      refine xo_nil ?_
      refine xq_seq ?_
      refine xc_dec rfl (fun hk1 => ?_) (fun hk1 => ?_)
      refine xc_skip ?_
      refine xq_seq ?_
      refine xc_seq ?_
      refine xc_block ?_
      refine xc_seq ?_
      refine xc_drawML [0, 0, 3, 4, 0, 0, 48, 64, 136] [0, 0, 3, 4, 0, 0, 48, 64, 136] (by kernel_rfl) (by kernel_rfl) (by kernel_rfl) ?_
      refine xm_take 0 (m' := 1) rfl (by kernel_rfl) (by first | exact Sb.refl | exact Sb.nil | (repeat (first | exact Sb.nil | exact Sb.refl | exact Sb.app0 | apply Sb.keep | apply Sb.keepApp | apply Sb.cons | apply Sb.app))) (rd_move rfl) rfl (by kernel_rfl) ?_
      refine xm_take 1 (m' := 3) rfl (by kernel_rfl) (by first | exact Sb.refl | exact Sb.nil | (repeat (first | exact Sb.nil | exact Sb.refl | exact Sb.app0 | apply Sb.keep | apply Sb.keepApp | apply Sb.cons | apply Sb.app))) (rd_move rfl) rfl (by kernel_rfl) ?_
      refine xm_take 4 (m' := 19) rfl (by kernel_rfl) (by first | exact Sb.refl | exact Sb.nil | (repeat (first | exact Sb.nil | exact Sb.refl | exact Sb.app0 | apply Sb.keep | apply Sb.keepApp | apply Sb.cons | apply Sb.app))) (rd_move rfl) rfl (by kernel_rfl) ?_
      refine xm_take 5 (m' := 51) rfl (by kernel_rfl) (by first | exact Sb.refl | exact Sb.nil | (repeat (first | exact Sb.nil | exact Sb.refl | exact Sb.app0 | apply Sb.keep | apply Sb.keepApp | apply Sb.cons | apply Sb.app))) (rd_move rfl) rfl (by kernel_rfl) ?_
      rotate_left
      refine xc_exit ?_
      refine xq_then_exit ?_
      refine xq_then_exit ?_
      refine xq_block_hit ?_
      refine xq_seq ?_
      refine xc_seq ?_
      refine xc_region ?_
      refine xo_rd (rd_assign rfl) rfl ?_
      refine xo_nil ?_
      refine xq_seq ?_
      refine xc_ret ?_
      rotate_left
    · obtain ⟨b, o, hp, hc⟩ := hr.int (i := k) (by omega)
      obtain ⟨b', o', hp', hc'⟩ := hs.int (i := k) (by omega)
      subst hp hp'
      focus
        refine xm_take 2 (m' := 55) rfl (by kernel_rfl) (by first | exact Sb.refl | exact Sb.nil | (repeat (first | exact Sb.nil | exact Sb.refl | exact Sb.app0 | apply Sb.keep | apply Sb.keepApp | apply Sb.cons | apply Sb.app))) (rd_indexAddr rfl rfl (by omega) (by omega)) rfl (by kernel_rfl) ?_
        refine xm_take 3 (m' := 63) rfl (by kernel_rfl) (by first | exact Sb.refl | exact Sb.nil | (repeat (first | exact Sb.nil | exact Sb.refl | exact Sb.app0 | apply Sb.keep | apply Sb.keepApp | apply Sb.cons | apply Sb.app))) (rd_load1 rfl hc) rfl (by kernel_rfl) ?_
        refine xm_take 6 (m' := 127) rfl (by kernel_rfl) (by first | exact Sb.refl | exact Sb.nil | (repeat (first | exact Sb.nil | exact Sb.refl | exact Sb.app0 | apply Sb.keep | apply Sb.keepApp | apply Sb.cons | apply Sb.app))) (rd_indexAddr rfl rfl (by omega) (by omega)) rfl (by kernel_rfl) ?_
        refine xm_take 7 (m' := 255) rfl (by kernel_rfl) (by first | exact Sb.refl | exact Sb.nil | (repeat (first | exact Sb.nil | exact Sb.refl | exact Sb.app0 | apply Sb.keep | apply Sb.keepApp | apply Sb.cons | apply Sb.app))) (rd_load1 rfl hc') rfl (by kernel_rfl) ?_
        refine xm_take 8 (m' := 511) rfl (by kernel_rfl) (by first | exact Sb.refl | exact Sb.nil | (repeat (first | exact Sb.nil | exact Sb.refl | exact Sb.app0 | apply Sb.keep | apply Sb.keepApp | apply Sb.cons | apply Sb.app))) (rd_neq rfl rfl) rfl (by kernel_rfl) ?_
        refine xm_done (by kernel_rfl) ?_
        refine xq_seq ?_
        refine xc_ndec rfl (fun hq1 => ?_) (fun hq1 => ?_)
        refine xc_seq ?_
        refine xc_region ?_
        refine xo_rd (rd_assign rfl) rfl ?_
        refine xo_nil ?_
        refine xq_seq ?_
        refine xc_ret ?_
        refine xq_block_ret ?_
        refine xq_then_ret ?_
        refine xq_then_ret ?_
        refine xq_block_ret ?_
        refine xq_then_ret ?_
        rotate_left
        refine xc_skip ?_
        refine xq_block ?_
        refine xq_seq ?_
        refine xc_region ?_
        refine xo_rd (rd_move rfl) rfl ?_
        refine xo_rd (rd_addn rfl rfl (by omega) (by omega)) rfl ?_
        refine xo_rd (rd_assign rfl) rfl ?_
        refine xo_nil ?_
        rotate_left
      · refine xq_ret1 (.inl rfl) Try.results72 rfl ⟨?_, rfl⟩
        rw [decide_eq_false (fun e => by subst e; exact hq1 rfl)]
      · refine xq_roundI (k + 1) ⟨by omega, ?_⟩ (by omega) rfl (by repeat (first | exact keep_nil | refine keep_cons rfl ?_))
        rw [List.take_add_one, List.take_add_one, he, List.getElem?_eq_getElem (by omega), List.getElem?_eq_getElem (by omega), hq1]
    · have hkm : k = m' := by omega
      subst hkm
      refine xq_ret1 (.inl rfl) Try.results72 rfl ⟨?_, rfl⟩
      rw [List.take_of_length_le (by omega), List.take_of_length_le (by omega)] at he
      rw [decide_eq_true he]
theorem xf_rsamebytesT {W : World} {L : List Blk} (p q : Option Addr) (m m' c c' : Nat) (xs ys : List Int) (he : xs = ys) (hx : xs.length = m) (hy : ys.length = m') (hr : Rs W L p (ints .u8 xs)) (hs : Rs W L q (ints .u8 ys)) (hm : m ≤ 1000000000) : XF Try.prog W 72 #[.slice p m c, .slice q m' c'] L (fun v L' => v = .bool true ∧ L' = L) :=
  (xf_rsamebytes p q m m' c c' xs ys hx hy hr hs hm).mono fun v L' h => ⟨h.1.trans (by rw [decide_eq_true he]), h.2⟩
/-- slices.Equal: are two rows the same? -/
theorem xf_equal {W : World} {L : List Blk} (p q : Option Addr) (m m' c c' : Nat) (xs ys : List Int) (hx : xs.length = m) (hy : ys.length = m') (hr : Rs W L p (ints .u8 xs)) (hs : Rs W L q (ints .u8 ys)) (hm : m ≤ 1000000000) : XF Try.prog W 61 #[.slice p m c, .slice q m' c'] L (fun v L' => v = .bool (decide (xs = ys)) ∧ L' = L) := by
  refine xf_enter (args := [_, _]) Try.func61 rfl Try.ntmps61 rfl ?_
  focus
    refine xc_seq ?_
    refine xc_region ?_
    refine xo_rd (rd_assign rfl) rfl ?_
    refine xo_nil ?_
    refine xq_seq ?_
    refine xc_seq ?_
    refine xc_seq ?_
    refine xc_region ?_
    refine xo_rd (rd_move rfl) rfl ?_
    refine xo_rd (rd_len rfl) rfl ?_
    refine xo_rd (rd_move rfl) rfl ?_
    refine xo_rd (rd_len rfl) rfl ?_
    refine xo_rd (rd_neq rfl rfl) rfl ?_
    refine xo_nil ?_
    refine xq_seq ?_
    refine xc_ndec rfl (fun h1 => ?_) (fun h1 => ?_)
    refine xc_seq ?_
    refine xc_region ?_
    refine xo_rd (rd_assign rfl) rfl ?_
    refine xo_nil ?_
    refine xq_seq ?_
    refine xc_ret ?_
    refine xq_then_ret ?_
    rotate_left
    refine xc_skip ?_
    refine xq_seq ?_
    refine xc_seq ?_
    refine xc_seq ?_
    refine xc_region ?_
    refine xo_rd (rd_move rfl) rfl ?_
    refine xo_rd (rd_len rfl) rfl ?_
    refine xo_rd (rd_move rfl) rfl ?_
    refine xo_nil ?_
    refine xq_seq ?_
    refine xc_block ?_
    rotate_left
  · refine xq_ret1 (.inl rfl) Try.results61 rfl ⟨?_, rfl⟩
    rw [decide_eq_false (fun e => by subst e; omega)]
  · have hmm : m' = m := by omega
    subst hmm
    refine xc_loopI (ι := Nat) (fun k => k ≤ m' ∧ xs.take k = ys.take k) (fun k => m' - k) (fun _ => L) (fun k => [(0, .slice p m' c), (1, .slice q m' c'), (12, .int .i64 m'), (13, .int .i64 k)]) 0 ⟨Nat.zero_le _, by simp⟩ rfl (by repeat (first | exact keep_nil | refine keep_cons rfl ?_)) ?_
    rintro k ⟨hk, he⟩
    focus
      refine xc_seq ?_
      refine xc_region ?_
      refine xo_rd (rd_lss rfl rfl) rfl ?_
      refine xo_nil ?_
      refine xq_seq ?_
      refine xc_seq ?_
      refine xc_dec rfl (fun hk1 => ?_) (fun hk1 => ?_)
      refine xc_skip ?_
      refine xq_seq ?_
      refine xc_seq ?_
      refine xc_block ?_
      refine xc_seq ?_
      refine xc_region ?_
      refine xo_rd (rd_move rfl) rfl ?_
      refine xo_rd (rd_assign rfl) rfl ?_
      refine xo_nil ?_
      refine xq_seq ?_
      refine xc_seq ?_
      refine xc_drawML [0, 0, 3, 4, 0, 0, 48, 64, 136] [0, 0, 3, 4, 0, 0, 48, 64, 136] (by kernel_rfl) (by kernel_rfl) (by kernel_rfl) ?_
      refine xm_take 0 (m' := 1) rfl (by kernel_rfl) (by first | exact Sb.refl | exact Sb.nil | (repeat (first | exact Sb.nil | exact Sb.refl | exact Sb.app0 | apply Sb.keep | apply Sb.keepApp | apply Sb.cons | apply Sb.app))) (rd_move rfl) rfl (by kernel_rfl) ?_
      refine xm_take 1 (m' := 3) rfl (by kernel_rfl) (by first | exact Sb.refl | exact Sb.nil | (repeat (first | exact Sb.nil | exact Sb.refl | exact Sb.app0 | apply Sb.keep | apply Sb.keepApp | apply Sb.cons | apply Sb.app))) (rd_move rfl) rfl (by kernel_rfl) ?_
      refine xm_take 4 (m' := 19) rfl (by kernel_rfl) (by first | exact Sb.refl | exact Sb.nil | (repeat (first | exact Sb.nil | exact Sb.refl | exact Sb.app0 | apply Sb.keep | apply Sb.keepApp | apply Sb.cons | apply Sb.app))) (rd_move rfl) rfl (by kernel_rfl) ?_
      refine xm_take 5 (m' := 51) rfl (by kernel_rfl) (by first | exact Sb.refl | exact Sb.nil | (repeat (first | exact Sb.nil | exact Sb.refl | exact Sb.app0 | apply Sb.keep | apply Sb.keepApp | apply Sb.cons | apply Sb.app))) (rd_move rfl) rfl (by kernel_rfl) ?_
      rotate_left
      refine xc_exit ?_
      refine xq_then_exit ?_
      refine xq_then_exit ?_
      refine xq_block_hit ?_
      refine xq_seq ?_
      refine xc_seq ?_
      refine xc_region ?_
      refine xo_rd (rd_assign rfl) rfl ?_
      refine xo_nil ?_
      refine xq_seq ?_
      refine xc_ret ?_
      rotate_left
    · obtain ⟨b, o, hp, hc⟩ := hr.int (i := k) (by omega)
      obtain ⟨b', o', hp', hc'⟩ := hs.int (i := k) (by omega)
      subst hp hp'
      focus
        refine xm_take 2 (m' := 55) rfl (by kernel_rfl) (by first | exact Sb.refl | exact Sb.nil | (repeat (first | exact Sb.nil | exact Sb.refl | exact Sb.app0 | apply Sb.keep | apply Sb.keepApp | apply Sb.cons | apply Sb.app))) (rd_indexAddr rfl rfl (by omega) (by omega)) rfl (by kernel_rfl) ?_
        refine xm_take 3 (m' := 63) rfl (by kernel_rfl) (by first | exact Sb.refl | exact Sb.nil | (repeat (first | exact Sb.nil | exact Sb.refl | exact Sb.app0 | apply Sb.keep | apply Sb.keepApp | apply Sb.cons | apply Sb.app))) (rd_load1 rfl hc) rfl (by kernel_rfl) ?_
        refine xm_take 6 (m' := 127) rfl (by kernel_rfl) (by first | exact Sb.refl | exact Sb.nil | (repeat (first | exact Sb.nil | exact Sb.refl | exact Sb.app0 | apply Sb.keep | apply Sb.keepApp | apply Sb.cons | apply Sb.app))) (rd_indexAddr rfl rfl (by omega) (by omega)) rfl (by kernel_rfl) ?_
        refine xm_take 7 (m' := 255) rfl (by kernel_rfl) (by first | exact Sb.refl | exact Sb.nil | (repeat (first | exact Sb.nil | exact Sb.refl | exact Sb.app0 | apply Sb.keep | apply Sb.keepApp | apply Sb.cons | apply Sb.app))) (rd_load1 rfl hc') rfl (by kernel_rfl) ?_
        refine xm_take 8 (m' := 511) rfl (by kernel_rfl) (by first | exact Sb.refl | exact Sb.nil | (repeat (first | exact Sb.nil | exact Sb.refl | exact Sb.app0 | apply Sb.keep | apply Sb.keepApp | apply Sb.cons | apply Sb.app))) (rd_neq rfl rfl) rfl (by kernel_rfl) ?_
        refine xm_done (by kernel_rfl) ?_
        refine xq_seq ?_
        refine xc_ndec rfl (fun hq1 => ?_) (fun hq1 => ?_)
        refine xc_seq ?_
        refine xc_region ?_
        refine xo_rd (rd_assign rfl) rfl ?_
        refine xo_nil ?_
        refine xq_seq ?_
        refine xc_ret ?_
        refine xq_block_ret ?_
        refine xq_then_ret ?_
        refine xq_then_ret ?_
        refine xq_block_ret ?_
        refine xq_then_ret ?_
        rotate_left
        refine xc_skip ?_
        refine xq_block ?_
        refine xq_seq ?_
        refine xc_region ?_
        refine xo_rd (rd_addn rfl rfl (by omega) (by omega)) rfl ?_
        refine xo_rd (rd_move rfl) rfl ?_
        refine xo_nil ?_
        rotate_left
      · refine xq_ret1 (.inl rfl) Try.results61 rfl ⟨?_, rfl⟩
        rw [decide_eq_false (fun e => by subst e; exact hq1 rfl)]
      · refine xq_roundI (k + 1) ⟨by omega, ?_⟩ (by omega) rfl (by repeat (first | exact keep_nil | refine keep_cons rfl ?_))
        rw [List.take_add_one, List.take_add_one, he, List.getElem?_eq_getElem (by omega), List.getElem?_eq_getElem (by omega), hq1]
    · have hkm : k = m' := by omega
      subst hkm
      refine xq_ret1 (.inl rfl) Try.results61 rfl ⟨?_, rfl⟩
      rw [List.take_of_length_le (by omega), List.take_of_length_le (by omega)] at he
      rw [decide_eq_true he]
/-- easelkit's Spoil: an owned row is written over. -/
theorem xf_spoil {W : World} {R : List Blk} (v : Value) (m : Nat) (xs : List Value) (l : List Blk) (hO : SlO 1 5 v m xs l) (hm : m ≤ 1000000000) : XF Try.prog W 40 #[v] (l ++ R) (fun u L' => u = .tuple #[] ∧ ∃ xs' l', SlO 1 5 v m xs' l' ∧ L' = l' ++ R) := by
  obtain ⟨p, c, rfl, hO, hc⟩ := hO.opn
  refine xf_enter (args := [_]) Try.func40 rfl Try.ntmps40 rfl ?_
  focus
    refine xc_seq ?_
    refine xc_region ?_
    refine xo_rd (rd_assign rfl) rfl ?_
    refine xo_nil ?_
    refine xq_seq ?_
    refine xc_block ?_
  refine xc_loopI (ι := Nat × List Value × List Blk) (fun s => s.1 ≤ m ∧ SlO 1 5 (.slice p m c) m s.2.1 s.2.2) (fun s => m - s.1) (fun s => s.2.2 ++ R) (fun s => [(0, .slice p m c), (2, .int .i64 s.1)]) (0, xs, l) ⟨Nat.zero_le _, hO⟩ rfl (by repeat (first | exact keep_nil | refine keep_cons rfl ?_)) ?_
  rintro ⟨k, xs, l⟩ ⟨hk, hO⟩
  dsimp only at hk hO ⊢
  focus
    refine xc_seq ?_
    refine xc_seq ?_
    refine xc_region ?_
    refine xo_rd (rd_move rfl) rfl ?_
    refine xo_rd (rd_move rfl) rfl ?_
    refine xo_rd (rd_len rfl) rfl ?_
    refine xo_rd (rd_lss rfl rfl) rfl ?_
    refine xo_nil ?_
    refine xq_seq ?_
    refine xc_dec rfl (fun hk1 => ?_) (fun hk1 => ?_)
    refine xc_skip ?_
    refine xq_seq ?_
    refine xc_seq ?_
    refine xc_block ?_
    refine xc_region ?_
    refine xo_rd (rd_move rfl) rfl ?_
    refine xo_rd (rd_move rfl) rfl ?_
    rotate_left
    refine xc_exit ?_
    refine xq_then_exit ?_
    refine xq_then_exit ?_
    refine xq_block_hit ?_
    rotate_left
  · obtain ⟨b, rest, cap, hv, hcap, hl⟩ := hO.cut (by omega)
    simp only [Value.slice.injEq] at hv
    obtain ⟨hp, _, hcc⟩ := hv
    subst hp
    focus
      refine xo_rd (rd_indexAddr rfl rfl (by omega) (by omega)) rfl ?_
      refine xo_ef rfl (ef_storeEl [] R (i := k) hO (by simp [ev, lk, pt]) rfl (by omega) rfl rfl rfl (by decide) rfl fun l' hO' => ?_)
      refine xo_nil ?_
      refine xq_block ?_
      refine xq_seq ?_
      refine xc_region ?_
      refine xo_rd (rd_move rfl) rfl ?_
      refine xo_rd (rd_addn rfl rfl (by omega) (by omega)) rfl ?_
      refine xo_rd (rd_assign rfl) rfl ?_
      refine xo_nil ?_
    exact xq_roundI (k + 1, _, l') ⟨by dsimp only; omega, hO'⟩ (by dsimp only; omega) rfl (by repeat (first | exact keep_nil | refine keep_cons rfl ?_))
  · exact xq_ret0 (.inr rfl) Try.results40 ⟨rfl, xs, l, hO, rfl⟩
/-- easelkit's Pick, of a small n above 0. -/
theorem xf_pick {W : World} {L : List Blk} (x n : Int) (hn : 0 < n) (hn' : n ≤ 1000) : XF Try.prog W 12 #[.int .i64 x, .int .i64 n] L (fun v L' => v = .int .i64 ((x.tmod n + n) % n) ∧ L' = L) := by
  refine xf_enter (args := [_, _]) Try.func12 rfl Try.ntmps12 rfl ?_
  have h1 := Int.tmod_lt_of_pos x hn
  have h2 := Int.lt_tmod_of_pos x hn
  focus
    refine xc_seq ?_
    refine xc_region ?_
    refine xo_rd (rd_assign rfl) rfl ?_
    refine xo_nil ?_
    refine xq_seq ?_
    refine xc_seq ?_
    refine xc_seq ?_
    refine xc_region ?_
    refine xo_rd (rd_move rfl) rfl ?_
    refine xo_rd (rd_leq rfl rfl) rfl ?_
    refine xo_nil ?_
    refine xq_seq ?_
    refine xc_dec rfl (fun h1 => (by exfalso; omega)) (fun h1 => ?_)
    refine xc_skip ?_
    refine xq_seq ?_
    refine xc_seq ?_
    refine xc_region ?_
    refine xo_rd (rd_move rfl) rfl ?_
    refine xo_rd (rd_move rfl) rfl ?_
    refine xo_rd (rd_rem rfl rfl (by omega)) rfl ?_
    refine xo_rd (rd_move rfl) rfl ?_
    refine xo_rd (rd_addn rfl rfl (by omega) (by omega)) rfl ?_
    refine xo_rd (rd_move rfl) rfl ?_
    refine xo_rd (rd_rem rfl rfl (by omega)) rfl ?_
    refine xo_rd (rd_assign rfl) rfl ?_
    refine xo_nil ?_
    refine xq_seq ?_
    refine xc_ret ?_
  refine xq_ret1 (.inl rfl) Try.results12 rfl ⟨?_, rfl⟩
  rw [Int.tmod_eq_emod_of_nonneg (by omega)]
theorem Dc.enc_inj (x y : Dc) : decide (x = y) = true ↔ x.enc = y.enc := by
  rw [decide_eq_true_iff]
  refine ⟨fun h => by rw [h], fun h => ?_⟩
  obtain ⟨⟩ := x; obtain ⟨⟩ := y
  simp only [Dc.enc, List.cons.injEq, Value.bool.injEq, Value.int.injEq, true_and, and_true] at h
  simp only [Dc.mk.injEq]; exact h
theorem If9.enc_inj (x y : If9) : decide (x = y) = true ↔ x.enc = y.enc := by
  rw [decide_eq_true_iff]
  refine ⟨fun h => by rw [h], fun h => ?_⟩
  obtain ⟨⟩ := x; obtain ⟨⟩ := y
  simp only [If9.enc, List.cons.injEq, Value.bool.injEq, Value.int.injEq, true_and, and_true] at h
  simp only [If9.mk.injEq]; exact h
def msD : List (String × Nat × Nat) := [("N", 4, 0), ("Start", 4, 1), ("Part", 5, 2), ("HasPic", 4, 3), ("Long", 4, 4), ("Pic", 36, 5), ("HasTl0", 4, 6), ("Tl0", 5, 7), ("HasTid", 4, 8), ("Tid", 5, 9), ("Sync", 4, 10), ("HasKey", 4, 11), ("KeyIdx", 5, 12)]
def msI : List (String × Nat × Nat) := [("Type", 5, 0), ("Time", 35, 1), ("HasPic", 4, 2), ("Pic", 36, 3), ("HasTl0", 4, 4), ("Tl0", 5, 5), ("Tid", 5, 6), ("Sync", 4, 7), ("Drop", 4, 8)]
theorem flatD (x y : Dc) : FlatV Try.prog x.enc.toArray y.enc.toArray msD x.enc y.enc :=
  .bool (by decide) rfl rfl <| .bool (by decide) rfl rfl <| .int (by decide) rfl rfl <| .bool (by decide) rfl rfl <| .bool (by decide) rfl rfl <| .int (by decide) rfl rfl <| .bool (by decide) rfl rfl <| .int (by decide) rfl rfl <| .bool (by decide) rfl rfl <| .int (by decide) rfl rfl <| .bool (by decide) rfl rfl <| .bool (by decide) rfl rfl <| .int (by decide) rfl rfl <| .nil
theorem flatI (x y : If9) : FlatV Try.prog x.enc.toArray y.enc.toArray msI x.enc y.enc :=
  .int (by decide) rfl rfl <| .int (by decide) rfl rfl <| .bool (by decide) rfl rfl <| .int (by decide) rfl rfl <| .bool (by decide) rfl rfl <| .int (by decide) rfl rfl <| .int (by decide) rfl rfl <| .bool (by decide) rfl rfl <| .bool (by decide) rfl rfl <| .nil
theorem eqs114 (x y : Dc) : EqS Try.prog 114 x.enc y.enc (decide (x = y)) := .of msD (by kernel_rfl) (by kernel_rfl) (by kernel_rfl) (by kernel_rfl) (flatD x y) (x.enc_inj y)
theorem eqs138 (x y : Dc) : EqS Try.prog 138 x.enc y.enc (decide (x = y)) := .of msD (by kernel_rfl) (by kernel_rfl) (by kernel_rfl) (by kernel_rfl) (flatD x y) (x.enc_inj y)
theorem eqs38 (x y : If9) : EqS Try.prog 38 x.enc y.enc (decide (x = y)) := .of msI (by kernel_rfl) (by kernel_rfl) (by kernel_rfl) (by kernel_rfl) (flatI x y) (x.enc_inj y)
theorem eqs50 (x y : If9) : EqS Try.prog 50 x.enc y.enc (decide (x = y)) := .of msI (by kernel_rfl) (by kernel_rfl) (by kernel_rfl) (by kernel_rfl) (flatI x y) (x.enc_inj y)
set_option maxHeartbeats 4000000 in
theorem xf_Desc {W : World} {L : List Blk} (x : Dc) : XF Try.prog W 74 #[.agg x.enc.toArray] L (fun v L' => v = .agg x.enc.toArray ∧ L' = L) := by
  refine xf_enter (args := [_]) Try.func74 rfl Try.ntmps74 rfl ?_
  focus
    refine xc_seq ?_
    refine xc_region ?_
    refine xo_ef rfl (ef_box rfl fun r1 => ?_)
    refine xo_ef rfl (ef_alloc fun r2 => ?_)
    refine xo_nil ?_
    refine xq_seq ?_
    refine xc_seq ?_
    refine xc_region ?_
    refine xo_rd (rd_fieldAddr rfl) rfl ?_
    refine xo_rd (rd_load1 rfl (Cl.o1 rfl)) rfl ?_
    refine xo_rd (rd_fieldAddr rfl) rfl ?_
    refine xo_rd (rd_load1 rfl (Cl.o1 rfl)) rfl ?_
    refine xo_rd (rd_fieldAddr rfl) rfl ?_
    refine xo_rd (rd_load1 rfl (Cl.o1 rfl)) rfl ?_
    refine xo_rd (rd_fieldAddr rfl) rfl ?_
    refine xo_rd (rd_load1 rfl (Cl.o1 rfl)) rfl ?_
    refine xo_rd (rd_fieldAddr rfl) rfl ?_
    refine xo_rd (rd_load1 rfl (Cl.o1 rfl)) rfl ?_
    refine xo_rd (rd_fieldAddr rfl) rfl ?_
    refine xo_rd (rd_load1 rfl (Cl.o1 rfl)) rfl ?_
    refine xo_rd (rd_fieldAddr rfl) rfl ?_
    refine xo_rd (rd_load1 rfl (Cl.o1 rfl)) rfl ?_
    refine xo_rd (rd_fieldAddr rfl) rfl ?_
    refine xo_rd (rd_load1 rfl (Cl.o1 rfl)) rfl ?_
    refine xo_rd (rd_fieldAddr rfl) rfl ?_
    refine xo_rd (rd_load1 rfl (Cl.o1 rfl)) rfl ?_
    refine xo_rd (rd_fieldAddr rfl) rfl ?_
    refine xo_rd (rd_load1 rfl (Cl.o1 rfl)) rfl ?_
    refine xo_rd (rd_fieldAddr rfl) rfl ?_
    refine xo_rd (rd_load1 rfl (Cl.o1 rfl)) rfl ?_
    refine xo_rd (rd_fieldAddr rfl) rfl ?_
    refine xo_rd (rd_load1 rfl (Cl.o1 rfl)) rfl ?_
    refine xo_rd (rd_fieldAddr rfl) rfl ?_
    refine xo_rd (rd_load1 rfl (Cl.o1 rfl)) rfl ?_
    refine xo_rd (rd_build rfl rfl rfl) rfl ?_
    refine xo_ef rfl (ef_storeB [] _ rfl rfl (by first | rfl | assumption) rfl rfl rfl ?_)
    refine xo_nil ?_
    refine xq_seq ?_
    refine xc_ret ?_
  exact xq_retB (.inl rfl) Try.results74 rfl Kn.o0 rfl (List.sublist_append_right [_, _] _) ⟨rfl, rfl⟩
set_option maxHeartbeats 4000000 in
theorem xf_Info {W : World} {L : List Blk} (x : If9) : XF Try.prog W 73 #[.agg x.enc.toArray] L (fun v L' => v = .agg x.enc.toArray ∧ L' = L) := by
  refine xf_enter (args := [_]) Try.func73 rfl Try.ntmps73 rfl ?_
  focus
    refine xc_seq ?_
    refine xc_region ?_
    refine xo_ef rfl (ef_box rfl fun r1 => ?_)
    refine xo_ef rfl (ef_alloc fun r2 => ?_)
    refine xo_nil ?_
    refine xq_seq ?_
    refine xc_seq ?_
    refine xc_region ?_
    refine xo_rd (rd_fieldAddr rfl) rfl ?_
    refine xo_rd (rd_load1 rfl (Cl.o1 rfl)) rfl ?_
    refine xo_rd (rd_fieldAddr rfl) rfl ?_
    refine xo_rd (rd_load1 rfl (Cl.o1 rfl)) rfl ?_
    refine xo_rd (rd_fieldAddr rfl) rfl ?_
    refine xo_rd (rd_load1 rfl (Cl.o1 rfl)) rfl ?_
    refine xo_rd (rd_fieldAddr rfl) rfl ?_
    refine xo_rd (rd_load1 rfl (Cl.o1 rfl)) rfl ?_
    refine xo_rd (rd_fieldAddr rfl) rfl ?_
    refine xo_rd (rd_load1 rfl (Cl.o1 rfl)) rfl ?_
    refine xo_rd (rd_fieldAddr rfl) rfl ?_
    refine xo_rd (rd_load1 rfl (Cl.o1 rfl)) rfl ?_
    refine xo_rd (rd_fieldAddr rfl) rfl ?_
    refine xo_rd (rd_load1 rfl (Cl.o1 rfl)) rfl ?_
    refine xo_rd (rd_fieldAddr rfl) rfl ?_
    refine xo_rd (rd_load1 rfl (Cl.o1 rfl)) rfl ?_
    refine xo_rd (rd_fieldAddr rfl) rfl ?_
    refine xo_rd (rd_load1 rfl (Cl.o1 rfl)) rfl ?_
    refine xo_rd (rd_build rfl rfl rfl) rfl ?_
    refine xo_ef rfl (ef_storeB [] _ rfl rfl (by first | rfl | assumption) rfl rfl rfl ?_)
    refine xo_nil ?_
    refine xq_seq ?_
    refine xc_ret ?_
  exact xq_retB (.inl rfl) Try.results73 rfl Kn.o0 rfl (List.sublist_append_right [_, _] _) ⟨rfl, rfl⟩
end Go.Proofs.Ytpheiklhjelkcaa.X
