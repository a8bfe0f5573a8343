/-
  Texts of my own, put together: walks and laws for this seat. No condition.
-/
import Derived.Test.YtohlaabclifbfaaM13
/-
  The statements' walks, over any own blocks; what the last walk needs.
-/
namespace Go.Proofs.Ytohlaabclifbfaa.X
open Go Go.RowKit
set_option linter.unusedVariables false
set_option linter.unusedSimpArgs false
section
variable {W : World} {L : List Blk}
theorem xk_puts (x : Sn) (hx : x.Rg) (p1 : Option Addr) (m1 c1 : Nat) (e1 : x.bl.length = m1) (hr1 : Rs W L p1 (x.bl.flatMap Bk.enc)) (hn1 : x.bl.length ≤ 9223372036854775807)
    (p2 : Option Addr) (n c2 : Nat) (xs : List Ck) (hxs : xs.length = n) (hr2 : Rs W L p2 (xs.flatMap Ck.enc)) (hu2 : ∀ x, x ∈ xs → U4 x.ss) (hn2 : n ≤ 9223372036854775807)
    (z : By') (p3 : Option Addr) (m3 c3 : Nat) (e3 : z.so.length = m3) (hr3 : Rs W L p3 (ints .u32 z.so)) (hu3 : ∀ y, y ∈ z.so → U4 y) (hn3 : z.so.length ≤ 9223372036854775807) (hm3 : z.re.size ≤ 9223372036854775807) :
    XF Try.prog W 6 #[.agg (x.enc (.slice p1 m1 c1)).toArray, .slice p2 n c2, .agg (z.enc (.slice p3 m3 c3)).toArray] L (fun v L' => v = .bool true ∧ L' = L) := by
  subst e1 e3
  exact xf_over fun w hw => xf_RtcpPuts x hx p1 c1 (hr1.over hw) hn1 p2 n c2 xs hxs (hr2.over hw) hu2 hn2 z p3 c3 (hr3.over hw) hu3 hn3 hm3
theorem xk_joins (p : Option Addr) (n c : Nat) (xs : List Pb) (hx : xs.length = n) (h : PbR W L p xs) (hn : n ≤ 9223372036854775807) : XF Try.prog W 5 #[.slice p n c] L (fun v L' => v = .bool true ∧ L' = L) :=
  xf_over fun w hw => xf_RtcpJoins p n c xs hx (h.rs.over hw) (fun x hx => (h.bd x hx).over hw) h.rg (fun x hx => Nat.le_trans (h.few x hx) (by decide)) hn
theorem xk_back (p : Option Addr) (n c : Nat) (xs : List Pb) (hx : xs.length = n) (h : PbR W L p xs) (hn : n ≤ 9223372036854775807) (pb : Option Addr) (m cb : Nat) (bs : List Int) (hxb : bs.length = m) (hrb : Rs W L pb (ints .u8 bs)) (hb : ∀ x, x ∈ bs → By x) (hc : m ≤ cb) (hm : m ≤ 9223372036854775807) :
    XF Try.prog W 4 #[.slice p n c, .slice pb m cb] L (fun v L' => v = .bool true ∧ L' = L) :=
  xf_over fun w hw => xf_RtcpBack p n c xs hx (h.rs.over hw) (fun x hx => (h.bd x hx).over hw) h.rg (fun x hx => Nat.le_trans (h.few x hx) (by decide)) hn pb m cb bs hxb (hrb.over hw) hb hc hm
theorem xk_splits (p : Option Addr) (m c : Nat) (bs : List Int) (hx : bs.length = m) (hr : Rs W L p (ints .u8 bs)) (hb : ∀ x, x ∈ bs → By x) (hc : m ≤ c) (hm : m ≤ 9223372036854775807) : XF Try.prog W 3 #[.slice p m c] L (fun v L' => v = .bool true ∧ L' = L) :=
  xf_over fun w hw => xf_RtcpSplits p m c bs hx (hr.over hw) hb hc hm
theorem xk_tells (q : Pc) (p : Option Addr) (m c : Nat) (hx : q.bd.length = m) (hr : Rs W L p (ints .u8 q.bd)) (hg : q.Rg) (hc : m ≤ c) (hn : m ≤ 9223372036854775807) : XF Try.prog W 45 #[.agg (q.enc (.slice p m c)).toArray] L (fun v L' => v = .bool true ∧ L' = L) := by
  subst hx
  exact xf_over fun w hw => xf_RtcpTells ⟨q, p, c, []⟩ (hr.over hw) hg hc hn
theorem xk_tellsP (x : Pb) (hr : Rs W L x.p (ints .u8 x.q.bd)) (hg : x.q.Rg) (hc : x.q.bd.length ≤ x.c) (hn : x.q.bd.length ≤ 9223372036854775807) : XF Try.prog W 45 #[.agg x.enc.toArray] L (fun v L' => v = .bool true ∧ L' = L) :=
  xf_over fun w hw => xf_RtcpTells x (hr.over hw) hg hc hn
end
section
variable {W : World} {L : List Blk}
theorem xk_sender (x : Sn) (hx : x.Rg) (p : Option Addr) (m c : Nat) (e1 : x.bl.length = m) (q : Pc) (e : Int) (hz : sndR x = (q, e)) (hr : Rs W L p (x.bl.flatMap Bk.enc)) (hn : m ≤ 1000000) : XF Try.prog W 24 #[.agg (x.enc (.slice p m c)).toArray] L (PbM L q e) := by
  subst e1; exact xg_sender x hx p c q e hz hr hn
theorem xk_bye (x : By') (p : Option Addr) (m c : Nat) (e1 : x.so.length = m) (q : Pc) (e : Int) (hz : putBy x = (q, e)) (hr : Rs W L p (ints .u32 x.so)) (hu : ∀ z, z ∈ x.so → U4 z) (hn : m ≤ 9223372036854775807) (hm : x.re.size ≤ 9223372036854775807) : XF Try.prog W 27 #[.agg (x.enc (.slice p m c)).toArray] L (PbM L q e) := by
  subst e1; exact xg_bye x p c q e hz hr hu hn hm
end
structure KdS where
  r : Nat
  x : Pb
theorem strOfNums_size (xs : List Int) : (strOfNums xs).size = xs.length := by
  unfold strOfNums
  show (List.map _ xs).toArray.size = _
  simp
theorem joinL_by {qs : List Pc} (hg : ∀ q, q ∈ qs → q.Rg) : ∀ x, x ∈ (joinL qs).1 → By x := by
  unfold joinL
  split
  · intro x h; cases h
  · split
    · rename_i h
      split
      · exact flat_by h hg
      · intro x h; cases h
    · intro x h; cases h
theorem rep_by (m : Nat) : ∀ x, x ∈ List.replicate m (0 : Int) → By x := fun x hx => by rw [List.eq_of_mem_replicate hx]; exact ⟨by decide, by decide⟩
theorem SlO.rep {e : TypeId} (r m : Nat) (v : Value) : SlO 1 e (.slice (some ⟨r, 0, none⟩) m m) m (List.replicate m v) [(r, .cells (List.replicate m v).toArray e (0, 0))] := .inr ⟨r, _, m, rfl, rfl, Nat.le_refl _, by simp, by simp [List.take_replicate]⟩
theorem Rs.flat_take {W : World} {L : List Blk} {p : Option Addr} {α : Type} {enc : α → List Value} {s : Nat} {l : List α} (h : Rs W L p (l.flatMap enc)) (hs : ∀ x, (enc x).length = s) (i : Nat) : Rs W L p ((l.take i).flatMap enc) := by
  have : l.flatMap enc = (l.take i).flatMap enc ++ (l.drop i).flatMap enc := by rw [← List.flatMap_append, List.take_append_drop]
  intro j u hj
  exact h j u (by rw [this, List.getElem?_append_left (List.getElem?_eq_some_iff.1 hj).1]; exact hj)
/-- What grows in a round of the last walk. -/
structure KnS where
  i : Nat
  bl : List Bk
  cs : List Ck
  so : List Int
  s1 : Option Addr
  k1 : Nat
  l1 : List Blk
  s2 : Option Addr
  k2 : Nat
  l2 : List Blk
  s3 : Option Addr
  k3 : Nat
  l3 : List Blk
structure KnI (n : Nat) (z : KnS) : Prop where
  le : z.i ≤ n
  b1 : z.bl.length = z.i
  b2 : z.cs.length = z.i
  b3 : z.so.length = z.i
  r1 : ∀ b, b ∈ z.bl → b.Rg
  r2 : ∀ c, c ∈ z.cs → U4 c.ss
  r3 : ∀ y, y ∈ z.so → U4 y
  o1 : SlO 7 95 (.slice z.s1 z.i z.k1) z.i (z.bl.flatMap Bk.enc) z.l1
  o2 : SlO 2 97 (.slice z.s2 z.i z.k2) z.i (z.cs.flatMap Ck.enc) z.l2
  o3 : SlO 1 49 (.slice z.s3 z.i z.k3) z.i (ints .u32 z.so) z.l3
theorem ef_perm {P : Program} {W : World} {n : Nat} {L L' : List Blk} {E : List (Nat × Value)} {o : Oper} {K : Value → List Blk → Prop} (hp : L.Perm L') (h : EF P W n L' E o K) : EF P W n L E o K := ⟨fun a w ha hw => h.run a w ha (hw.perm hp)⟩
theorem perm_x (a b c R : List Blk) : (a ++ (b ++ (c ++ R))).Perm (c ++ (a ++ (b ++ R))) := (by classical exact List.perm_iff_count.2 fun a => by simp only [List.append_eq, List.count_append, List.count_cons, List.count_nil, List.cons_append, List.nil_append, List.flatMap_append, List.flatMap_cons, List.flatMap_nil, List.append_nil]; omega)
theorem perm_y (a b c R : List Blk) : (c ++ (a ++ (b ++ R))).Perm (a ++ (b ++ (c ++ R))) := (by classical exact List.perm_iff_count.2 fun a => by simp only [List.append_eq, List.count_append, List.count_cons, List.count_nil, List.cons_append, List.nil_append, List.flatMap_append, List.flatMap_cons, List.flatMap_nil, List.append_nil]; omega)
theorem perm_q4 {c1 c2 c3 c4 : Blk} (a b G : List Blk) : (a ++ (b ++ (c1 :: c2 :: c3 :: c4 :: G))).Perm (c1 :: c2 :: c3 :: c4 :: (a ++ (b ++ G))) := (by classical exact List.perm_iff_count.2 fun a => by simp only [List.append_eq, List.count_append, List.count_cons, List.count_nil, List.cons_append, List.nil_append, List.flatMap_append, List.flatMap_cons, List.flatMap_nil, List.append_nil]; omega)
theorem perm_r3 (l1 l2 l3 R : List Blk) : (l1 ++ (l2 ++ (l3 ++ R))).Perm (l2 ++ (l1 ++ (l3 ++ R))) := (by classical exact List.perm_iff_count.2 fun a => by simp only [List.append_eq, List.count_append, List.count_cons, List.count_nil, List.cons_append, List.nil_append, List.flatMap_append, List.flatMap_cons, List.flatMap_nil, List.append_nil]; omega)
/-- What may not be joined, and the like. -/
def badL (r : Nat) : List Pb := [⟨⟨32, 201, [], 0⟩, none, 0, []⟩, ⟨⟨0, 201, [1], 0⟩, some ⟨r, 0, none⟩, 1, []⟩, ⟨⟨0, 201, [], 3⟩, none, 0, []⟩, ⟨⟨0, 202, [], 0⟩, none, 0, []⟩, ⟨⟨0, 201, [], 252⟩, none, 0, []⟩, ⟨⟨0, 200, [], 0⟩, none, 0, []⟩]
structure BadOk (W : World) (L : List Blk) (x : Pb) : Prop where
  bd : Rs W L x.p (ints .u8 x.q.bd)
  rg : x.q.Rg
  few : x.q.bd.length ≤ 1000000
theorem BadOk.mono {W : World} {L L' : List Blk} {x : Pb} (h : BadOk W L x) (hm : ∀ z, z ∈ L → z ∈ L') : BadOk W L' x := ⟨h.bd.mono hm, h.rg, h.few⟩
theorem badL_ok {W : World} {L : List Blk} {r : Nat} (h : (r, Obj.cells (ints .u8 [1]).toArray 5 (0, 0)) ∈ L) : ∀ x, x ∈ badL r → BadOk W L x := by
  intro x hx
  have b0 : By 0 := ⟨by decide, by decide⟩
  have b1 : By 201 := ⟨by decide, by decide⟩
  simp only [badL, List.mem_cons, List.not_mem_nil, or_false] at hx
  rcases hx with rfl | rfl | rfl | rfl | rfl | rfl
  · exact ⟨Rs.nil, ⟨(⟨by decide, by decide⟩ : By 32), b1, (fun x h => by cases h), b0⟩, Nat.zero_le _⟩
  · exact ⟨Rs.fresh h, ⟨b0, b1, (fun x h => by rw [List.mem_singleton.1 h]; exact (⟨by decide, by decide⟩ : By 1)), b0⟩, by show 1 ≤ 1000000; decide⟩
  · exact ⟨Rs.nil, ⟨b0, b1, (fun x h => by cases h), (⟨by decide, by decide⟩ : By 3)⟩, Nat.zero_le _⟩
  · exact ⟨Rs.nil, ⟨b0, (⟨by decide, by decide⟩ : By 202), (fun x h => by cases h), b0⟩, Nat.zero_le _⟩
  · exact ⟨Rs.nil, ⟨b0, b1, (fun x h => by cases h), (⟨by decide, by decide⟩ : By 252)⟩, Nat.zero_le _⟩
  · exact ⟨Rs.nil, ⟨b0, (⟨by decide, by decide⟩ : By 200), (fun x h => by cases h), b0⟩, Nat.zero_le _⟩
theorem PbR.lit {W : World} {L : List Blk} {r T : Nat} {l : List Pb} (h : (r, Obj.cells (l.flatMap Pb.enc).toArray T (0, 0)) ∈ L) (ho : ∀ x, x ∈ l → BadOk W L x) : PbR W L (some ⟨r, 0, none⟩) l := ⟨Rs.fresh h, fun x hx => (ho x hx).bd, fun x hx => (ho x hx).rg, fun x hx => (ho x hx).few⟩
theorem two_ok {W : World} {L : List Blk} {x y : Pb} (hx : BadOk W L x) (hy : BadOk W L y) : ∀ z, z ∈ [x, y] → BadOk W L z := fun z hz => by
  simp only [List.mem_cons, List.not_mem_nil, or_false] at hz
  rcases hz with rfl | rfl
  · exact hx
  · exact hy
theorem one_ok {W : World} {L : List Blk} {x : Pb} (hx : BadOk W L x) : ∀ z, z ∈ [x] → BadOk W L z := fun z hz => by rw [List.mem_singleton.1 hz]; exact hx
def Bk.tot (t : Int) : Bk := ⟨0, 0, t, 0, 0, 0, 0⟩
theorem Bk.tot_rg {t : Int} (h0 : -2147483648 ≤ t) (h1 : t ≤ 2147483647) : (Bk.tot t).Rg := by
  have u : U4 0 := ⟨by decide, by decide⟩
  exact ⟨u, (⟨by decide, by decide⟩ : By 0), ⟨h0, h1⟩, u, u, u, u⟩
theorem Sn.bls_rg {l : List Bk} (h : ∀ b, b ∈ l → b.Rg) : Sn.Rg ⟨0, 0, 0, 0, 0, l⟩ := by
  have u : U4 0 := ⟨by decide, by decide⟩
  exact ⟨u, ⟨(by decide : (0 : Int) ≤ 0), (by decide : (0 : Int) ≤ 18446744073709551615)⟩, u, u, u, h⟩
end Go.Proofs.Ytohlaabclifbfaa.X
