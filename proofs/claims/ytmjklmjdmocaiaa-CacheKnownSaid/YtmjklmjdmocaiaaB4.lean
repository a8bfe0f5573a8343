/-
  The reference's Ask, by a walk of my own.
-/
import Derived.Test.YtmjklmjdmocaiaaB3
namespace Go.Proofs.Ytmjklmjdmocaiaa.X
open Go Go.RowKit
set_option linter.unusedVariables false
set_option linter.unusedSimpArgs false
def Rk.hit (hold now n : Int) (x : Rk) : Prop := x.n = n ∧ x.pp.may hold now
instance (hold now n : Int) (x : Rk) : Decidable (x.hit hold now n) := by unfold Rk.hit; infer_instance
def Rk.told (now : Int) (x : Rk) : Rk := ⟨x.n, x.p, x.m, x.c, x.bs, true, mx now x.tick⟩
def Rk.ask (hold now n : Int) (x : Rk) : Rk := if x.hit hold now n then x.told now else x
theorem Rk.told_ok {W : World} {x : Rk} (h : x.Ok W) {now : Int} (h1 : now ≤ 18446744073709551615) : (x.told now).Ok W :=
  ⟨h.len, h.rs, h.le, Int.le_trans h.t0 (le_mx _ _), mx_le h1 h.t1⟩
theorem Rk.ask_ok {W : World} {x : Rk} (h : x.Ok W) {hold now n : Int} (h1 : now ≤ 18446744073709551615) : (x.ask hold now n).Ok W := by
  unfold Rk.ask; split
  · exact Rk.told_ok h h1
  · exact h
theorem Rk.ask_n (hold now n : Int) (x : Rk) : (x.ask hold now n).n = x.n := by unfold Rk.ask; split <;> rfl
/-- One number, all rows gone over: what the document has. -/
theorem ask1_rows (size hold now n : Int) (rows : List Rk) (os : List (List Int)) (hnod : (rows.map Rk.n).Nodup) :
    Sta.ask1 now (⟨size, hold, rows.map Rk.pp⟩, os) n = (⟨size, hold, (rows.map (Rk.ask hold now n)).map Rk.pp⟩, os ++ (rows.filter (fun x => decide (x.hit hold now n))).map Rk.bs) := by
  have hfind : (⟨size, hold, rows.map Rk.pp⟩ : Sta).has n = (rows.find? (fun r => r.n == n)).map Rk.pp := by
    unfold Sta.has
    dsimp only
    rw [List.find?_map]; rfl
  unfold Sta.ask1
  dsimp only
  rw [hfind]
  cases hf : rows.find? (fun r => r.n == n) with
  | none =>
    have hno : ∀ r, r ∈ rows → ¬ r.hit hold now n := fun r hr h => by
      have := List.find?_eq_none.1 hf r hr
      simp [h.1] at this
    have e1 : rows.map (Rk.ask hold now n) = rows := by
      conv => rhs; rw [← List.map_id rows]
      exact List.map_congr_left fun r hr => by unfold Rk.ask; rw [if_neg (hno r hr)]; rfl
    have e2 : rows.filter (fun x => decide (x.hit hold now n)) = [] := by
      rw [List.filter_eq_nil_iff]
      intro r hr
      simpa using hno r hr
    rw [e1, e2]
    simp
  | some p =>
    obtain ⟨h1, r1, r2, h2, h3⟩ := List.find?_eq_some_iff_append.1 hf
    have hpn : p.n = n := by simpa using h1
    subst h2
    rw [List.map_append, List.map_cons] at hnod
    have hd := List.nodup_append.1 hnod
    have hc := List.nodup_cons.1 hd.2.1
    have n1 : ∀ r, r ∈ r1 → r.n ≠ n := fun r hr => by simpa using h3 r hr
    have n2 : ∀ r, r ∈ r2 → r.n ≠ n := fun r hr e => hc.1 (List.mem_map.2 ⟨r, hr, by rw [e, hpn]⟩)
    have a1 : ∀ r, r ∈ r1 → Rk.ask hold now n r = r := fun r hr => by unfold Rk.ask; rw [if_neg fun h => n1 r hr h.1]
    have a2 : ∀ r, r ∈ r2 → Rk.ask hold now n r = r := fun r hr => by unfold Rk.ask; rw [if_neg fun h => n2 r hr h.1]
    have b1 : ∀ r, r ∈ r1 → Pp.ask now n r.pp = r.pp := fun r hr => by unfold Pp.ask; rw [if_neg (show ¬ r.pp.n = n from n1 r hr)]
    have b2 : ∀ r, r ∈ r2 → Pp.ask now n r.pp = r.pp := fun r hr => by unfold Pp.ask; rw [if_neg (show ¬ r.pp.n = n from n2 r hr)]
    have m1 : r1.map (Rk.ask hold now n) = r1 := by
      conv => rhs; rw [← List.map_id r1]
      exact List.map_congr_left a1
    have m2 : r2.map (Rk.ask hold now n) = r2 := by
      conv => rhs; rw [← List.map_id r2]
      exact List.map_congr_left a2
    have q1 : (r1.map Rk.pp).map (Pp.ask now n) = r1.map Rk.pp := by
      rw [List.map_map]; exact List.map_congr_left b1
    have q2 : (r2.map Rk.pp).map (Pp.ask now n) = r2.map Rk.pp := by
      rw [List.map_map]; exact List.map_congr_left b2
    have f1 : r1.filter (fun x => decide (x.hit hold now n)) = [] := by
      rw [List.filter_eq_nil_iff]; intro r hr; simpa using fun h : r.hit hold now n => n1 r hr h.1
    have f2 : r2.filter (fun x => decide (x.hit hold now n)) = [] := by
      rw [List.filter_eq_nil_iff]; intro r hr; simpa using fun h : r.hit hold now n => n2 r hr h.1
    simp only [Option.map_some, List.map_append, List.map_cons, List.filter_append, List.filter_cons, m1, m2, f1, f2, q1, q2]
    by_cases hm : p.pp.may hold now
    · have hh : p.hit hold now n := ⟨hpn, hm⟩
      have e1 : Rk.ask hold now n p = p.told now := by unfold Rk.ask; rw [if_pos hh]
      have e2 : Pp.ask now n p.pp = (p.told now).pp := by unfold Pp.ask; rw [if_pos (show p.pp.n = n from hpn)]; rfl
      rw [if_pos hm, e1, e2]
      simp [hh, Rk.pp]
    · have hh : ¬ p.hit hold now n := fun h => hm h.2
      have e1 : Rk.ask hold now n p = p := by unfold Rk.ask; rw [if_neg hh]
      rw [if_neg hm, e1]
      simp [hh]
structure RaS where
  i : Nat
  rows : List Rk
  os : List Rk
  v : Value
  l : List Blk
  vo : Value
  lo : List Blk
structure RaI (W : World) (size hold now : Int) (rows0 : List Rk) (ns : List Int) (s : RaS) : Prop where
  i : s.i ≤ ns.length
  o : SlO 4 70 s.v s.rows.length (s.rows.flatMap Rk.enc) s.l
  oo : SlO 1 31 s.vo s.os.length (s.os.map Rk.sl) s.lo
  st : (ns.take s.i).foldl (Sta.ask1 now) (⟨size, hold, rows0.map Rk.pp⟩, []) = (⟨size, hold, s.rows.map Rk.pp⟩, s.os.map Rk.bs)
  ok : ∀ r, r ∈ s.rows → r.Ok W
  oks : ∀ r, r ∈ s.os → r.Ok W
  nn : s.rows.map Rk.n = rows0.map Rk.n
  few : s.os.length ≤ s.i * 2000
theorem oneSl (os : List Rk) : (os.map Rk.sl).all (·.oneCell') = true := by
  rw [List.all_eq_true]
  intro v hv
  obtain ⟨x, _, rfl⟩ := List.mem_map.1 hv
  rfl
theorem flat_set (enc : Rk → List Value) (hs : ∀ x, (enc x).length = 4) (l : List Rk) (k : Nat) (hk : k < l.length) (x : Rk) : (l.flatMap enc).take (k * 4) ++ enc x ++ (l.flatMap enc).drop ((k + 1) * 4) = (l.take k ++ x :: l.drop (k + 1)).flatMap enc := by
  have h1 : l = l.take k ++ l[k] :: l.drop (k + 1) := by rw [List.getElem_cons_drop, List.take_append_drop]
  have e1 : ((l.take k).flatMap enc).length = k * 4 := by rw [flat_length enc hs, List.length_take, Nat.min_eq_left (by omega)]
  have e2 : ((l.take k).flatMap enc ++ enc l[k]).length = (k + 1) * 4 := by rw [List.length_append, e1, hs]; omega
  have e3 : l.flatMap enc = (l.take k).flatMap enc ++ enc l[k] ++ (l.drop (k + 1)).flatMap enc := by
    conv => lhs; rw [h1]
    rw [List.flatMap_append, List.flatMap_cons, List.append_assoc]
  have e4 : ((l.take k).flatMap enc ++ enc l[k] ++ (l.drop (k + 1)).flatMap enc).take (k * 4) = (l.take k).flatMap enc := by rw [List.append_assoc, List.take_left' e1]
  rw [e3, List.drop_left' e2, e4, List.flatMap_append, List.flatMap_cons, List.append_assoc]
theorem set_miss (f : Rk → Rk) (rs rs1 : List Rk) (j : Nat) (hj : j < rs.length) (h : rs1 = (rs.take j).map f ++ rs.drop j) (hf : f rs[j] = rs[j]) : rs1 = (rs.take (j + 1)).map f ++ rs.drop (j + 1) := by
  rw [h, List.take_add_one, List.getElem?_eq_getElem hj, List.map_append, List.append_assoc]
  congr 1
  simp [hf]
theorem set_hit (f : Rk → Rk) (rs rs1 : List Rk) (j : Nat) (hj : j < rs.length) (h : rs1 = (rs.take j).map f ++ rs.drop j) : rs1.take j ++ f rs[j] :: rs1.drop (j + 1) = (rs.take (j + 1)).map f ++ rs.drop (j + 1) := by
  have hl : ((rs.take j).map f).length = j := by simp; omega
  have e1 : rs1.take j = (rs.take j).map f := by rw [h, List.take_left' hl]
  have e2 : rs1.drop (j + 1) = rs.drop (j + 1) := by
    have e3 : rs1.drop j = rs.drop j := by rw [h, List.drop_left' hl]
    rw [← List.drop_drop, e3, List.drop_drop]
  rw [e1, e2, List.take_add_one, List.getElem?_eq_getElem hj, List.map_append, List.append_assoc]
  congr 1
theorem filt_step (g : Rk → Bool) (rs : List Rk) (j : Nat) (hj : j < rs.length) : (rs.take (j + 1)).filter g = (rs.take j).filter g ++ (if g rs[j] then [rs[j]] else []) := by
  rw [List.take_add_one, List.getElem?_eq_getElem hj, List.filter_append]
  congr 1
  cases h : g rs[j] <;> simp [h]
set_option maxHeartbeats 8000000 in
theorem xf_rask {W : World} {L : List Blk} (x : Rc) (hx : x.Ok W) (hsub : ∀ z, z ∈ x.l → z ∈ L) (now : Int) (hn0 : 0 ≤ now) (hn1 : now ≤ 18446744073709551615) (q : Option Addr) (m k : Nat) (ns : List Int) (hns : ns.length = m) (hrn : Rs W [] q (ints .u16 ns)) (hm : m ≤ 1000) :
    XF Try.prog W 19 #[.agg x.cells.toArray, .int .u64 now, .slice q m k] L (fun v L' => ∃ (y : Rc) (os : List Rk) (po : Option Addr) (co : Nat) (lo : List Blk), v = .tuple #[.agg y.cells.toArray, .slice po os.length co] ∧ y.Ok W ∧ x.st.ask now ns = (y.st, os.map Rk.bs) ∧ SlO 1 31 (.slice po os.length co) os.length (os.map Rk.sl) lo ∧ (∀ r, r ∈ os → r.Ok W) ∧ L' = y.l ++ (lo ++ L)) := by
  obtain ⟨size, hold, rows, p, c, l⟩ := x
  obtain ⟨hr, hrows, hfew, hh, hsz, hnod⟩ := hx
  dsimp only at hr hrows hfew hh hsub hsz hnod
  refine xf_enter (args := [_, _, _]) Try.func19 rfl Try.ntmps19 rfl ?_
  focus
    refine xc_seq ?_
    refine xc_region ?_
    refine xo_ef rfl (ef_box rfl fun r3 => ?_)
    refine xo_ef rfl (ef_alloc fun r6 => ?_)
    refine xo_rd (rd_assign rfl) rfl ?_
    refine xo_nil ?_
    refine xq_seq ?_
    refine xc_seq ?_
    refine xc_region ?_
    refine xo_rd (rd_assign rfl) rfl ?_
    refine xo_nil ?_
    refine xq_seq ?_
    refine xc_seq ?_
    refine xc_region ?_
    refine xo_rd (rd_move rfl) rfl ?_
    refine xo_rd (rd_fieldAddr rfl) rfl ?_
    refine xo_rd (rd_load1 rfl (Cl.o1 rfl)) rfl ?_
  refine xo_ef rfl (ef_append [_, _] L [] rfl rfl SlO.nil rfl (hr.mono fun z hz => List.mem_cons_of_mem _ (List.mem_cons_of_mem _ (hsub z hz))) (by rw [flat_length Rk.enc Rk.len]) (Rk.one rows) (by decide) (by dsimp only; omega) (by dsimp only; omega) fun v' l' hO => ?_)
  rw [Nat.zero_add, List.nil_append] at hO
  focus
    refine xo_rd (rd_assign rfl) rfl ?_
    refine xo_nil ?_
    refine xq_seq ?_
    refine xc_seq ?_
    refine xc_region ?_
    refine xo_rd (rd_assign rfl) rfl ?_
    refine xo_nil ?_
    refine xq_seq ?_
    refine xc_seq ?_
    refine xc_seq ?_
    refine xc_region ?_
    refine xo_rd (rd_assign rfl) rfl ?_
    refine xo_nil ?_
    refine xq_seq ?_
    refine xc_block ?_
  refine xc_loopI (ι := RaS) (RaI W size hold now rows ns) (fun s => m - s.i) (fun s => (r6, .cells #[.int .i64 0, .int .u64 0, .slice none 0 0] 43 (0, 0)) :: (r3, .cells [.int .i64 size, .int .u64 hold, .slice p rows.length c].toArray 43 (0, 0)) :: (s.l ++ (s.lo ++ L))) (fun s => [(1, .int .u64 now), (2, .slice q m k), (3, .pointer (some ⟨r3, 0, none⟩)), (6, .pointer (some ⟨r6, 0, none⟩)), (8, s.v), (9, s.vo), (10, .int .i64 s.i)]) ⟨0, rows, [], v', l', .slice none 0 0, []⟩ ⟨Nat.zero_le _, hO, SlO.nil, rfl, hrows, (fun _ h => by cases h), rfl, Nat.zero_le _⟩ rfl (by repeat (first | exact keep_nil | refine keep_cons rfl ?_)) ?_
  rintro ⟨i, rs, os, v, l1, vo, lo⟩ ⟨hi, hO, hOo, hst, hok, hoks, hnn, hosn⟩
  dsimp only at hi hO hOo hst hok hoks hnn hosn ⊢
  have hrl : rs.length = rows.length := by rw [← List.length_map (f := Rk.n), hnn, List.length_map]
  obtain ⟨pv, cv, rfl, hO, _⟩ := hO.opn
  obtain ⟨pvo, cvo, rfl, hOo, _⟩ := hOo.opn
  focus
    refine xc_seq ?_
    refine xc_seq ?_
    refine xc_region ?_
    refine xo_rd (rd_move rfl) rfl ?_
    refine xo_rd (rd_move rfl) rfl ?_
    refine xo_rd (rd_len rfl) rfl ?_
    refine xo_rd (rd_lss rfl rfl) rfl ?_
    refine xo_nil ?_
    refine xq_seq ?_
    refine xc_dec rfl (fun hi1 => ?_) (fun hi1 => ?_)
    refine xc_skip ?_
    refine xq_seq ?_
    refine xc_seq ?_
    refine xc_block ?_
    refine xc_seq ?_
    refine xc_region ?_
    refine xo_rd (rd_assign rfl) rfl ?_
    refine xo_nil ?_
    refine xq_seq ?_
    refine xc_block ?_
    rotate_left
    refine xc_exit ?_
    refine xq_then_exit ?_
    refine xq_then_exit ?_
    refine xq_block_hit ?_
    refine xq_seq ?_
    refine xc_seq ?_
    refine xc_region ?_
    refine xo_rd (rd_move rfl) rfl ?_
    refine xo_rd (rd_fieldAddr rfl) rfl ?_
    refine xo_ef rfl (ef_store1 [_] _ rfl rfl (by first | rfl | assumption) rfl rfl rfl ?_)
    refine xo_nil ?_
    refine xq_seq ?_
    refine xc_seq ?_
    refine xc_region ?_
    refine xo_rd (rd_loadB rfl Kn.o1 (by rfl)) rfl ?_
    refine xo_rd (rd_move rfl) rfl ?_
    refine xo_ef rfl (ef_storeB [] _ rfl rfl (by first | rfl | assumption) rfl rfl rfl ?_)
    refine xo_rd (rd_assign rfl) rfl ?_
    refine xo_nil ?_
    refine xq_seq ?_
    refine xc_ret ?_
    rotate_left
  · obtain ⟨bn, on, rfl, hcn⟩ := hrn.int (i := i) (by omega)
    have hnodr : (rs.map Rk.n).Nodup := by rw [hnn]; exact hnod
    have hstep : (ns.take (i + 1)).foldl (Sta.ask1 now) (⟨size, hold, rows.map Rk.pp⟩, []) = (⟨size, hold, (rs.map (Rk.ask hold now ns[i])).map Rk.pp⟩, os.map Rk.bs ++ (rs.filter (fun x => decide (x.hit hold now ns[i]))).map Rk.bs) := by
      rw [List.take_add_one, List.getElem?_eq_getElem (by omega)]
      simp only [Option.toList_some, List.foldl_append, List.foldl_cons, List.foldl_nil, hst]
      exact ask1_rows size hold now _ rs _ hnodr
    generalize ns[i] = n at *
    refine xc_loopI (ι := RaS) (fun s => s.i ≤ rs.length ∧ s.rows = (rs.take s.i).map (Rk.ask hold now n) ++ rs.drop s.i ∧ s.os = os ++ (rs.take s.i).filter (fun x => decide (x.hit hold now n)) ∧ SlO 4 70 s.v rs.length (s.rows.flatMap Rk.enc) s.l ∧ SlO 1 31 s.vo s.os.length (s.os.map Rk.sl) s.lo) (fun s => rs.length - s.i) (fun s => (r6, .cells #[.int .i64 0, .int .u64 0, .slice none 0 0] 43 (0, 0)) :: (r3, .cells [.int .i64 size, .int .u64 hold, .slice p rows.length c].toArray 43 (0, 0)) :: (s.l ++ (s.lo ++ L))) (fun s => [(1, .int .u64 now), (2, .slice (some ⟨bn, on, none⟩) m k), (3, .pointer (some ⟨r3, 0, none⟩)), (6, .pointer (some ⟨r6, 0, none⟩)), (8, s.v), (9, s.vo), (10, .int .i64 i), (11, .int .i64 s.i)]) ⟨0, rs, os, _, l1, _, lo⟩ ⟨Nat.zero_le _, by simp, by simp, hO, hOo⟩ rfl (by repeat (first | exact keep_nil | refine keep_cons rfl ?_)) ?_
    rintro ⟨j, rs1, os1, v1, l2, vo1, lo1⟩ ⟨hj, hrs1, hos1, hO1, hOo1⟩
    dsimp only at hj hrs1 hos1 hO1 hOo1 ⊢
    obtain ⟨p1, c1, rfl, hO1, hc1⟩ := hO1.opn
    focus
      refine xc_seq ?_
      refine xc_seq ?_
      refine xc_region ?_
      refine xo_rd (rd_move rfl) rfl ?_
      refine xo_rd (rd_move rfl) rfl ?_
      refine xo_rd (rd_len rfl) rfl ?_
      refine xo_rd (rd_lss rfl rfl) rfl ?_
      refine xo_nil ?_
      refine xq_seq ?_
      refine xc_dec rfl (fun hj1 => ?_) (fun hj1 => ?_)
      refine xc_skip ?_
      refine xq_seq ?_
      refine xc_seq ?_
      refine xc_block ?_
      refine xc_seq ?_
      refine xc_region ?_
      refine xo_rd (rd_move rfl) rfl ?_
      refine xo_rd (rd_move rfl) rfl ?_
      rotate_left
      refine xc_exit ?_
      refine xq_then_exit ?_
      refine xq_then_exit ?_
      rotate_left
    · have hjl : j < rs.length := by omega
      have hl1 : rs1.length = rs.length := by rw [hrs1]; simp; omega
      have hg1 : rs1[j]'(by omega) = rs[j] := by
        simp only [hrs1]
        rw [List.getElem_append_right (by simp; omega)]
        simp [Nat.min_eq_left hj]
      obtain ⟨b, o, rfl, hc⟩ := (hO1.rs (W := W) (L := l2) (fun _ h => h)).row Rk.len (by decide) (k := j) (by omega)
      rw [hg1] at hc
      have hgood := hok rs[j] (List.getElem_mem _)
      have ht0 := hgood.t0
      have hm1 := le_mx now rs[j].tick
      have hm2 : mx now rs[j].tick ≤ 18446744073709551615 := mx_le hn1 hgood.t1
      have hc' : ∀ (A : List Blk), ∀ (u : Nat) (z : Value), rs[j].enc[u]? = some z → Cl W (A ++ (l2 ++ (lo1 ++ L))) b (o + j * 4 + u) z := fun A u z hz => (hc u z hz).appl.app
      have hosl : os1.length ≤ i * 2000 + 2000 := by
        rw [hos1, List.length_append]
        have := List.length_filter_le (fun x => decide (Rk.hit hold now n x)) (rs.take j)
        rw [List.length_take] at this
        omega
      focus
        refine xo_rd (rd_indexAddr rfl rfl (by omega) (by omega)) rfl ?_
        refine xo_rd (rd_loadA (vs := rs[j].enc) rfl rfl (hc' [_, _])) rfl ?_
        refine xo_ef rfl (ef_alloc fun r12 => ?_)
        refine xo_ef rfl (ef_storeB [] _ rfl rfl (by first | rfl | assumption) rfl rfl rfl ?_)
        refine xo_nil ?_
        refine xq_seq ?_
      refine xc_join (ι := Unit) (fun _ => rs[j].hit hold now n) (fun _ => (r12, .cells rs[j].enc.toArray 70 (0, 0)) :: (r6, .cells #[.int .i64 0, .int .u64 0, .slice none 0 0] 43 (0, 0)) :: (r3, .cells [.int .i64 size, .int .u64 hold, .slice p rows.length c].toArray 43 (0, 0)) :: (l2 ++ (lo1 ++ L))) (fun _ => [(1, .int .u64 now), (2, .slice (some ⟨bn, on, none⟩) m k), (3, .pointer (some ⟨r3, 0, none⟩)), (6, .pointer (some ⟨r6, 0, none⟩)), (8, .slice (some ⟨b, o, none⟩) rs.length c1), (9, vo1), (10, .int .i64 i), (11, .int .i64 j), (12, .pointer (some ⟨r12, 0, none⟩))]) ?_ ?_
      · have hmiss : ¬ rs[j].hit hold now n → ∀ (E' : List (Nat × Value)) , True := fun _ _ => trivial
        have hround : ¬ rs[j].hit hold now n → (rs1 = (rs.take (j + 1)).map (Rk.ask hold now n) ++ rs.drop (j + 1) ∧ os1 = os ++ (rs.take (j + 1)).filter (fun x => decide (x.hit hold now n))) := fun hno => by
          refine ⟨set_miss _ rs rs1 j hjl hrs1 (by unfold Rk.ask; rw [if_neg hno]), ?_⟩
          rw [filt_step _ rs j hjl, if_neg (by simpa using hno), List.append_nil]
          exact hos1
        focus
          refine xc_seq ?_
          refine xc_drawML [0, 1, 0, 0, 12, 16, 34, 64, 128, 384, 640, 1024, 1024, 5120, 11264, 1024, 33792, 82944, 1024, 263168, 656384, 1049728, 2097280] [0, 1, 0, 0, 12, 16, 34, 64, 128, 384, 640, 1024, 1024, 5120, 11264, 1024, 33792, 82944, 1024, 263168, 656384, 1049728, 2097280] (by kernel_rfl) (by kernel_rfl) (by kernel_rfl) ?_
          refine xm_take 0 (m' := 1) rfl (by kernel_rfl) (by first | exact Sb.refl | exact Sb.nil | (repeat (first | exact Sb.nil | exact Sb.refl | exact Sb.app0 | apply Sb.keep | apply Sb.keepApp | apply Sb.cons | apply Sb.app))) (rd_fieldAddr rfl) rfl (by kernel_rfl) ?_
          refine xm_take 1 (m' := 3) rfl (by kernel_rfl) (by first | exact Sb.refl | exact Sb.nil | (repeat (first | exact Sb.nil | exact Sb.refl | exact Sb.app0 | apply Sb.keep | apply Sb.keepApp | apply Sb.cons | apply Sb.app))) (rd_load1 rfl (Cl.o0 rfl)) rfl (by kernel_rfl) ?_
          refine xm_take 2 (m' := 7) rfl (by kernel_rfl) (by first | exact Sb.refl | exact Sb.nil | (repeat (first | exact Sb.nil | exact Sb.refl | exact Sb.app0 | apply Sb.keep | apply Sb.keepApp | apply Sb.cons | apply Sb.app))) (rd_move rfl) rfl (by kernel_rfl) ?_
          refine xm_take 3 (m' := 15) rfl (by kernel_rfl) (by first | exact Sb.refl | exact Sb.nil | (repeat (first | exact Sb.nil | exact Sb.refl | exact Sb.app0 | apply Sb.keep | apply Sb.keepApp | apply Sb.cons | apply Sb.app))) (rd_move rfl) rfl (by kernel_rfl) ?_
          refine xm_take 4 (m' := 31) rfl (by kernel_rfl) (by first | exact Sb.refl | exact Sb.nil | (repeat (first | exact Sb.nil | exact Sb.refl | exact Sb.app0 | apply Sb.keep | apply Sb.keepApp | apply Sb.cons | apply Sb.app))) (rd_indexAddr rfl rfl (by omega) (by omega)) rfl (by kernel_rfl) ?_
          refine xm_take 5 (m' := 63) rfl (by kernel_rfl) (by first | exact Sb.refl | exact Sb.nil | (repeat (first | exact Sb.nil | exact Sb.refl | exact Sb.app0 | apply Sb.keep | apply Sb.keepApp | apply Sb.cons | apply Sb.app))) (rd_load1 rfl hcn.nil) rfl (by kernel_rfl) ?_
          refine xm_take 6 (m' := 127) rfl (by kernel_rfl) (by first | exact Sb.refl | exact Sb.nil | (repeat (first | exact Sb.nil | exact Sb.refl | exact Sb.app0 | apply Sb.keep | apply Sb.keepApp | apply Sb.cons | apply Sb.app))) (rd_neq rfl rfl) rfl (by kernel_rfl) ?_
          refine xm_take 7 (m' := 255) rfl (by kernel_rfl) (by first | exact Sb.refl | exact Sb.nil | (repeat (first | exact Sb.nil | exact Sb.refl | exact Sb.app0 | apply Sb.keep | apply Sb.keepApp | apply Sb.cons | apply Sb.app))) (rd_move rfl) rfl (by kernel_rfl) ?_
          refine xm_ndec 40 rfl (fun ha1 => ?_) (fun ha1 => ?_)
          refine xm_gskip 8 (m' := 511) rfl (by kernel_rfl) (by first | exact Sb.refl | exact Sb.nil | (repeat (first | exact Sb.nil | exact Sb.refl | exact Sb.app0 | apply Sb.keep | apply Sb.keepApp | apply Sb.cons | apply Sb.app))) rfl rfl rfl rfl (by kernel_rfl) ?_
          refine xm_gskip 9 (m' := 1023) rfl (by kernel_rfl) (by first | exact Sb.refl | exact Sb.nil | (repeat (first | exact Sb.nil | exact Sb.refl | exact Sb.app0 | apply Sb.keep | apply Sb.keepApp | apply Sb.cons | apply Sb.app))) rfl rfl rfl rfl (by kernel_rfl) ?_
          refine xm_gskip 10 (m' := 2047) rfl (by kernel_rfl) (by first | exact Sb.refl | exact Sb.nil | (repeat (first | exact Sb.nil | exact Sb.refl | exact Sb.app0 | apply Sb.keep | apply Sb.keepApp | apply Sb.cons | apply Sb.app))) rfl rfl rfl rfl (by kernel_rfl) ?_
          refine xm_gskipU 11 (m' := 4095) rfl (by kernel_rfl) (by first | exact Sb.refl | exact Sb.nil | (repeat (first | exact Sb.nil | exact Sb.refl | exact Sb.app0 | apply Sb.keep | apply Sb.keepApp | apply Sb.cons | apply Sb.app))) rfl rfl rfl (by kernel_rfl) ?_
          refine xm_gskipU 12 (m' := 8191) rfl (by kernel_rfl) (by first | exact Sb.refl | exact Sb.nil | (repeat (first | exact Sb.nil | exact Sb.refl | exact Sb.app0 | apply Sb.keep | apply Sb.keepApp | apply Sb.cons | apply Sb.app))) rfl rfl rfl (by kernel_rfl) ?_
          refine xm_gskipU 13 (m' := 16383) rfl (by kernel_rfl) (by first | exact Sb.refl | exact Sb.nil | (repeat (first | exact Sb.nil | exact Sb.refl | exact Sb.app0 | apply Sb.keep | apply Sb.keepApp | apply Sb.cons | apply Sb.app))) rfl rfl rfl (by kernel_rfl) ?_
          refine xm_gskipU 14 (m' := 32767) rfl (by kernel_rfl) (by first | exact Sb.refl | exact Sb.nil | (repeat (first | exact Sb.nil | exact Sb.refl | exact Sb.app0 | apply Sb.keep | apply Sb.keepApp | apply Sb.cons | apply Sb.app))) rfl rfl rfl (by kernel_rfl) ?_
          refine xm_gskipU 15 (m' := 65535) rfl (by kernel_rfl) (by first | exact Sb.refl | exact Sb.nil | (repeat (first | exact Sb.nil | exact Sb.refl | exact Sb.app0 | apply Sb.keep | apply Sb.keepApp | apply Sb.cons | apply Sb.app))) rfl rfl rfl (by kernel_rfl) ?_
          refine xm_gskipU 16 (m' := 131071) rfl (by kernel_rfl) (by first | exact Sb.refl | exact Sb.nil | (repeat (first | exact Sb.nil | exact Sb.refl | exact Sb.app0 | apply Sb.keep | apply Sb.keepApp | apply Sb.cons | apply Sb.app))) rfl rfl rfl (by kernel_rfl) ?_
          refine xm_gskipU 17 (m' := 262143) rfl (by kernel_rfl) (by first | exact Sb.refl | exact Sb.nil | (repeat (first | exact Sb.nil | exact Sb.refl | exact Sb.app0 | apply Sb.keep | apply Sb.keepApp | apply Sb.cons | apply Sb.app))) rfl rfl rfl (by kernel_rfl) ?_
          refine xm_gskipU 18 (m' := 524287) rfl (by kernel_rfl) (by first | exact Sb.refl | exact Sb.nil | (repeat (first | exact Sb.nil | exact Sb.refl | exact Sb.app0 | apply Sb.keep | apply Sb.keepApp | apply Sb.cons | apply Sb.app))) rfl rfl rfl (by kernel_rfl) ?_
          refine xm_gskipU 19 (m' := 1048575) rfl (by kernel_rfl) (by first | exact Sb.refl | exact Sb.nil | (repeat (first | exact Sb.nil | exact Sb.refl | exact Sb.app0 | apply Sb.keep | apply Sb.keepApp | apply Sb.cons | apply Sb.app))) rfl rfl rfl (by kernel_rfl) ?_
          refine xm_gskipU 20 (m' := 2097151) rfl (by kernel_rfl) (by first | exact Sb.refl | exact Sb.nil | (repeat (first | exact Sb.nil | exact Sb.refl | exact Sb.app0 | apply Sb.keep | apply Sb.keepApp | apply Sb.cons | apply Sb.app))) rfl rfl rfl (by kernel_rfl) ?_
          refine xm_gskip 21 (m' := 4194303) rfl (by kernel_rfl) (by first | exact Sb.refl | exact Sb.nil | (repeat (first | exact Sb.nil | exact Sb.refl | exact Sb.app0 | apply Sb.keep | apply Sb.keepApp | apply Sb.cons | apply Sb.app))) rfl rfl rfl rfl (by kernel_rfl) ?_
          refine xm_take 22 (m' := 8388607) rfl (by kernel_rfl) (by first | exact Sb.refl | exact Sb.nil | (repeat (first | exact Sb.nil | exact Sb.refl | exact Sb.app0 | apply Sb.keep | apply Sb.keepApp | apply Sb.cons | apply Sb.app))) (rd_pickt rfl rfl) rfl (by kernel_rfl) ?_
          refine xm_done (by kernel_rfl) ?_
          refine xq_seq ?_
          refine xc_condt rfl ?_
          refine xc_exit ?_
          refine xq_then_exit ?_
          refine xq_block_hit ?_
          refine xq_seq ?_
          refine xc_region ?_
          refine xo_rd (rd_move rfl) rfl ?_
          refine xo_rd (rd_addn rfl rfl (by omega) (by omega)) rfl ?_
          refine xo_rd (rd_assign rfl) rfl ?_
          refine xo_nil ?_
          rotate_left
          refine xm_gtake 8 (m' := 511) rfl (by kernel_rfl) (by first | exact Sb.refl | exact Sb.nil | (repeat (first | exact Sb.nil | exact Sb.refl | exact Sb.app0 | apply Sb.keep | apply Sb.keepApp | apply Sb.cons | apply Sb.app))) rfl rfl (rd_fieldAddr rfl) rfl (by kernel_rfl) ?_
          refine xm_gtake 9 (m' := 1023) rfl (by kernel_rfl) (by first | exact Sb.refl | exact Sb.nil | (repeat (first | exact Sb.nil | exact Sb.refl | exact Sb.app0 | apply Sb.keep | apply Sb.keepApp | apply Sb.cons | apply Sb.app))) rfl rfl (rd_load1 rfl (Cl.o0 rfl)) rfl (by kernel_rfl) ?_
          refine xm_gtake 10 (m' := 2047) rfl (by kernel_rfl) (by first | exact Sb.refl | exact Sb.nil | (repeat (first | exact Sb.nil | exact Sb.refl | exact Sb.app0 | apply Sb.keep | apply Sb.keepApp | apply Sb.cons | apply Sb.app))) rfl rfl (rd_move rfl) rfl (by kernel_rfl) ?_
          refine xm_split 43 rfl (fun ha2 => ?_) (fun ha2 => ?_)
          refine xm_gtake 11 (m' := 4095) rfl (by kernel_rfl) (by first | exact Sb.refl | exact Sb.nil | (repeat (first | exact Sb.nil | exact Sb.refl | exact Sb.app0 | apply Sb.keep | apply Sb.keepApp | apply Sb.cons | apply Sb.app))) rfl rfl (rd_move rfl) rfl (by kernel_rfl) ?_
          refine xm_gtake 12 (m' := 8191) rfl (by kernel_rfl) (by first | exact Sb.refl | exact Sb.nil | (repeat (first | exact Sb.nil | exact Sb.refl | exact Sb.app0 | apply Sb.keep | apply Sb.keepApp | apply Sb.cons | apply Sb.app))) rfl rfl (rd_fieldAddr rfl) rfl (by kernel_rfl) ?_
          refine xm_gtake 13 (m' := 16383) rfl (by kernel_rfl) (by first | exact Sb.refl | exact Sb.nil | (repeat (first | exact Sb.nil | exact Sb.refl | exact Sb.app0 | apply Sb.keep | apply Sb.keepApp | apply Sb.cons | apply Sb.app))) rfl rfl (rd_load1 rfl (Cl.o0 rfl)) rfl (by kernel_rfl) ?_
          refine xm_gtake 14 (m' := 32767) rfl (by kernel_rfl) (by first | exact Sb.refl | exact Sb.nil | (repeat (first | exact Sb.nil | exact Sb.refl | exact Sb.app0 | apply Sb.keep | apply Sb.keepApp | apply Sb.cons | apply Sb.app))) rfl rfl (rd_max rfl rfl) rfl (by kernel_rfl) ?_
          refine xm_gtake 15 (m' := 65535) rfl (by kernel_rfl) (by first | exact Sb.refl | exact Sb.nil | (repeat (first | exact Sb.nil | exact Sb.refl | exact Sb.app0 | apply Sb.keep | apply Sb.keepApp | apply Sb.cons | apply Sb.app))) rfl rfl (rd_fieldAddr rfl) rfl (by kernel_rfl) ?_
          refine xm_gtake 16 (m' := 131071) rfl (by kernel_rfl) (by first | exact Sb.refl | exact Sb.nil | (repeat (first | exact Sb.nil | exact Sb.refl | exact Sb.app0 | apply Sb.keep | apply Sb.keepApp | apply Sb.cons | apply Sb.app))) rfl rfl (rd_load1 rfl (Cl.o0 rfl)) rfl (by kernel_rfl) ?_
          refine xm_gtake 17 (m' := 262143) rfl (by kernel_rfl) (by first | exact Sb.refl | exact Sb.nil | (repeat (first | exact Sb.nil | exact Sb.refl | exact Sb.app0 | apply Sb.keep | apply Sb.keepApp | apply Sb.cons | apply Sb.app))) rfl rfl (rd_subn rfl rfl (by omega) (by omega)) rfl (by kernel_rfl) ?_
          refine xm_gtake 18 (m' := 524287) rfl (by kernel_rfl) (by first | exact Sb.refl | exact Sb.nil | (repeat (first | exact Sb.nil | exact Sb.refl | exact Sb.app0 | apply Sb.keep | apply Sb.keepApp | apply Sb.cons | apply Sb.app))) rfl rfl (rd_fieldAddr rfl) rfl (by kernel_rfl) ?_
          refine xm_gtake 19 (m' := 1048575) rfl (by kernel_rfl) (by first | exact Sb.refl | exact Sb.nil | (repeat (first | exact Sb.nil | exact Sb.refl | exact Sb.app0 | apply Sb.keep | apply Sb.keepApp | apply Sb.cons | apply Sb.app))) rfl rfl (rd_load1 rfl (Cl.o2 rfl)) rfl (by kernel_rfl) ?_
          refine xm_gtake 20 (m' := 2097151) rfl (by kernel_rfl) (by first | exact Sb.refl | exact Sb.nil | (repeat (first | exact Sb.nil | exact Sb.refl | exact Sb.app0 | apply Sb.keep | apply Sb.keepApp | apply Sb.cons | apply Sb.app))) rfl rfl (rd_lss rfl rfl) rfl (by kernel_rfl) ?_
          refine xm_gtake 21 (m' := 4194303) rfl (by kernel_rfl) (by first | exact Sb.refl | exact Sb.nil | (repeat (first | exact Sb.nil | exact Sb.refl | exact Sb.app0 | apply Sb.keep | apply Sb.keepApp | apply Sb.cons | apply Sb.app))) rfl rfl (rd_pickt rfl rfl) rfl (by kernel_rfl) ?_
          refine xm_take 22 (m' := 8388607) rfl (by kernel_rfl) (by first | exact Sb.refl | exact Sb.nil | (repeat (first | exact Sb.nil | exact Sb.refl | exact Sb.app0 | apply Sb.keep | apply Sb.keepApp | apply Sb.cons | apply Sb.app))) (rd_pickf rfl rfl) rfl (by kernel_rfl) ?_
          refine xm_done (by kernel_rfl) ?_
          refine xq_seq ?_
          refine xc_dec rfl (fun ha3 => ?_) (fun ha3 => ?_)
          refine xc_exit ?_
          refine xq_then_exit ?_
          refine xq_block_hit ?_
          refine xq_seq ?_
          refine xc_region ?_
          refine xo_rd (rd_move rfl) rfl ?_
          refine xo_rd (rd_addn rfl rfl (by omega) (by omega)) rfl ?_
          refine xo_rd (rd_assign rfl) rfl ?_
          refine xo_nil ?_
          rotate_left
          refine xc_skip ?_
          rotate_left
          refine xm_gskip 11 (m' := 4095) rfl (by kernel_rfl) (by first | exact Sb.refl | exact Sb.nil | (repeat (first | exact Sb.nil | exact Sb.refl | exact Sb.app0 | apply Sb.keep | apply Sb.keepApp | apply Sb.cons | apply Sb.app))) rfl rfl rfl rfl (by kernel_rfl) ?_
          refine xm_gskip 12 (m' := 8191) rfl (by kernel_rfl) (by first | exact Sb.refl | exact Sb.nil | (repeat (first | exact Sb.nil | exact Sb.refl | exact Sb.app0 | apply Sb.keep | apply Sb.keepApp | apply Sb.cons | apply Sb.app))) rfl rfl rfl rfl (by kernel_rfl) ?_
          refine xm_gskip 13 (m' := 16383) rfl (by kernel_rfl) (by first | exact Sb.refl | exact Sb.nil | (repeat (first | exact Sb.nil | exact Sb.refl | exact Sb.app0 | apply Sb.keep | apply Sb.keepApp | apply Sb.cons | apply Sb.app))) rfl rfl rfl rfl (by kernel_rfl) ?_
          refine xm_gskip 14 (m' := 32767) rfl (by kernel_rfl) (by first | exact Sb.refl | exact Sb.nil | (repeat (first | exact Sb.nil | exact Sb.refl | exact Sb.app0 | apply Sb.keep | apply Sb.keepApp | apply Sb.cons | apply Sb.app))) rfl rfl rfl rfl (by kernel_rfl) ?_
          refine xm_gskip 15 (m' := 65535) rfl (by kernel_rfl) (by first | exact Sb.refl | exact Sb.nil | (repeat (first | exact Sb.nil | exact Sb.refl | exact Sb.app0 | apply Sb.keep | apply Sb.keepApp | apply Sb.cons | apply Sb.app))) rfl rfl rfl rfl (by kernel_rfl) ?_
          refine xm_gskip 16 (m' := 131071) rfl (by kernel_rfl) (by first | exact Sb.refl | exact Sb.nil | (repeat (first | exact Sb.nil | exact Sb.refl | exact Sb.app0 | apply Sb.keep | apply Sb.keepApp | apply Sb.cons | apply Sb.app))) rfl rfl rfl rfl (by kernel_rfl) ?_
          refine xm_gskip 17 (m' := 262143) rfl (by kernel_rfl) (by first | exact Sb.refl | exact Sb.nil | (repeat (first | exact Sb.nil | exact Sb.refl | exact Sb.app0 | apply Sb.keep | apply Sb.keepApp | apply Sb.cons | apply Sb.app))) rfl rfl rfl rfl (by kernel_rfl) ?_
          refine xm_gskip 18 (m' := 524287) rfl (by kernel_rfl) (by first | exact Sb.refl | exact Sb.nil | (repeat (first | exact Sb.nil | exact Sb.refl | exact Sb.app0 | apply Sb.keep | apply Sb.keepApp | apply Sb.cons | apply Sb.app))) rfl rfl rfl rfl (by kernel_rfl) ?_
          refine xm_gskip 19 (m' := 1048575) rfl (by kernel_rfl) (by first | exact Sb.refl | exact Sb.nil | (repeat (first | exact Sb.nil | exact Sb.refl | exact Sb.app0 | apply Sb.keep | apply Sb.keepApp | apply Sb.cons | apply Sb.app))) rfl rfl rfl rfl (by kernel_rfl) ?_
          refine xm_gskip 20 (m' := 2097151) rfl (by kernel_rfl) (by first | exact Sb.refl | exact Sb.nil | (repeat (first | exact Sb.nil | exact Sb.refl | exact Sb.app0 | apply Sb.keep | apply Sb.keepApp | apply Sb.cons | apply Sb.app))) rfl rfl rfl rfl (by kernel_rfl) ?_
          refine xm_gtake 21 (m' := 4194303) rfl (by kernel_rfl) (by first | exact Sb.refl | exact Sb.nil | (repeat (first | exact Sb.nil | exact Sb.refl | exact Sb.app0 | apply Sb.keep | apply Sb.keepApp | apply Sb.cons | apply Sb.app))) rfl rfl (rd_pickf rfl rfl) rfl (by kernel_rfl) ?_
          refine xm_take 22 (m' := 8388607) rfl (by kernel_rfl) (by first | exact Sb.refl | exact Sb.nil | (repeat (first | exact Sb.nil | exact Sb.refl | exact Sb.app0 | apply Sb.keep | apply Sb.keepApp | apply Sb.cons | apply Sb.app))) (rd_pickf rfl rfl) rfl (by kernel_rfl) ?_
          refine xm_done (by kernel_rfl) ?_
          refine xq_seq ?_
          refine xc_condf rfl ?_
          refine xc_skip ?_
          rotate_left
        · have hno : ¬ rs[j].hit hold now n := fun h => ha1 h.1
          refine xq_tail ?_
          exact xq_roundI (⟨j + 1, rs1, os1, _, l2, vo1, lo1⟩ : RaS) ⟨by dsimp only; omega, (hround hno).1, (hround hno).2, hO1, hOo1⟩ (by dsimp only; omega) rfl (by repeat (first | exact keep_nil | refine keep_cons rfl ?_))
        · have hno : ¬ rs[j].hit hold now n := fun h => h.2 ⟨ha2, ha3⟩
          refine xq_tail ?_
          exact xq_roundI (⟨j + 1, rs1, os1, _, l2, vo1, lo1⟩ : RaS) ⟨by dsimp only; omega, (hround hno).1, (hround hno).2, hO1, hOo1⟩ (by dsimp only; omega) rfl (by repeat (first | exact keep_nil | refine keep_cons rfl ?_))
        · exact xq_joined () ⟨ha1, fun h => ha3 h.2⟩ rfl (by repeat (first | exact keep_nil | refine keep_cons rfl ?_))
        · exact xq_joined () ⟨ha1, fun h => by rw [show rs[j].pp.asked = rs[j].asked from rfl, ha2] at h; exact absurd h.1 (by decide)⟩ rfl (by repeat (first | exact keep_nil | refine keep_cons rfl ?_))
      · rintro _ hhit
        focus
          refine xc_seq ?_
          refine xc_region ?_
          refine xo_rd (rd_move rfl) rfl ?_
          refine xo_rd (rd_fieldAddr rfl) rfl ?_
          refine xo_rd (rd_load1 rfl (Cl.o0 rfl)) rfl ?_
          refine xo_ef rfl (ef_slice1 rfl rfl rfl fun r59 => ?_)
        refine xo_ef rfl (ef_append (_ :: _ :: _ :: _ :: l2) L lo1 rfl rfl hOo1 rfl (Rs.fresh (List.Mem.head _)) rfl rfl (by decide) (by omega) (by omega) fun v2 lo2 hOo2 => ?_)
        refine xo_tail ?_
        focus
          refine xo_rd (rd_assign rfl) rfl ?_
          refine xo_nil ?_
          refine xq_seq ?_
          refine xc_region ?_
          refine xo_rd (rd_move rfl) rfl ?_
          refine xo_rd (rd_move rfl) rfl ?_
          refine xo_rd (rd_fieldAddr rfl) rfl ?_
          refine xo_rd (rd_load1 rfl (Cl.o0 rfl)) rfl ?_
          refine xo_rd (rd_fieldAddr rfl) rfl ?_
          refine xo_rd (rd_load1 rfl (Cl.o0 rfl)) rfl ?_
          refine xo_rd (rd_move rfl) rfl ?_
          refine xo_rd (rd_fieldAddr rfl) rfl ?_
          refine xo_rd (rd_load1 rfl (Cl.o0 rfl)) rfl ?_
          refine xo_rd ((rd_cast (rd_max rfl rfl) (rfl : (Value.int .u64 (if rs[j].tick > now then rs[j].tick else now)) = .int .u64 (mx now rs[j].tick)))) rfl ?_
          refine xo_rd (rd_build rfl rfl rfl) rfl ?_
          refine xo_rd (rd_indexAddr rfl rfl (by omega) (by omega)) rfl ?_
        refine xo_ef rfl (ef_storeElo [_, _, _] (lo2 ++ L) (i := j) hO1 rfl rfl hjl rfl rfl rfl (by decide) rfl fun l3 hO3 => ?_)
        have hO4 : SlO 4 70 (.slice (some ⟨b, o, none⟩) rs.length c1) rs.length (((rs.take (j + 1)).map (Rk.ask hold now n) ++ rs.drop (j + 1)).flatMap Rk.enc) l3 := by
          rw [← set_hit _ rs rs1 j hjl hrs1, ← flat_set Rk.enc Rk.len rs1 j (by omega)]
          have e : Rk.ask hold now n rs[j] = rs[j].told now := by unfold Rk.ask; rw [if_pos hhit]
          rw [e]
          exact hO3
        focus
          refine xo_nil ?_
          refine xq_block ?_
          refine xq_seq ?_
          refine xc_region ?_
          refine xo_rd (rd_move rfl) rfl ?_
          refine xo_rd (rd_addn rfl rfl (by omega) (by omega)) rfl ?_
          refine xo_rd (rd_assign rfl) rfl ?_
          refine xo_nil ?_
        refine xq_tail ?_
        refine xq_roundI (⟨j + 1, (rs.take (j + 1)).map (Rk.ask hold now n) ++ rs.drop (j + 1), os1 ++ [rs[j]], _, l3, v2, lo2⟩ : RaS) ⟨by dsimp only; omega, rfl, ?_, hO4, ?_⟩ (by dsimp only; omega) rfl (by repeat (first | exact keep_nil | refine keep_cons rfl ?_))
        · dsimp only
          rw [filt_step _ rs j hjl, if_pos (by simpa using hhit), hos1, List.append_assoc]
        · dsimp only
          rw [List.length_append, List.map_append]
          exact hOo2
    · have hjl : j = rs.length := by omega
      subst hjl
      focus
        refine xq_block_hit ?_
        refine xq_block ?_
        refine xq_seq ?_
        refine xc_region ?_
        refine xo_rd (rd_move rfl) rfl ?_
        refine xo_rd (rd_addn rfl rfl (by omega) (by omega)) rfl ?_
        refine xo_rd (rd_assign rfl) rfl ?_
        refine xo_nil ?_
      rw [List.take_length, List.drop_length, List.append_nil] at hrs1
      rw [List.take_length] at hos1
      have hl1 : rs1.length = rs.length := by rw [hrs1]; simp
      rw [← hl1] at hO1
      refine xq_roundI (⟨i + 1, rs1, os1, .slice p1 rs.length c1, l2, vo1, lo1⟩ : RaS) ⟨by dsimp only; omega, by rw [← hl1]; exact hO1, hOo1, ?_, ?_, ?_, ?_, ?_⟩ (by dsimp only; omega) rfl (by repeat (first | exact keep_nil | refine keep_cons rfl ?_))
      · dsimp only
        rw [hstep, hrs1, hos1, List.map_append]
      · intro r hr
        dsimp only at hr
        rw [hrs1] at hr
        obtain ⟨r', hr', rfl⟩ := List.mem_map.1 hr
        exact Rk.ask_ok (hok r' hr') hn1
      · intro r hr
        dsimp only at hr
        rw [hos1] at hr
        rcases List.mem_append.1 hr with hr | hr
        · exact hoks r hr
        · exact hok r (List.mem_filter.1 hr).1
      · dsimp only
        rw [← hnn, hrs1, List.map_map]
        exact List.map_congr_left fun r _ => Rk.ask_n hold now n r
      · dsimp only
        rw [hos1, List.length_append]
        have := List.length_filter_le (fun x => decide (Rk.hit hold now n x)) rs
        omega
  · have him : i = m := by omega
    subst him
    rw [← hns, List.take_length] at hst
    skip
    have hrl2 : rs.length = rows.length := hrl
    exact xq_retB2 (.inl rfl) Try.results19 rfl rfl Kn.o0 rfl (L' := l1 ++ (lo ++ L)) ((List.sublist_cons_self _ _).trans (List.sublist_cons_self _ _)) ⟨⟨size, hold, rs, pv, cv, l1⟩, os, pvo, cvo, lo, rfl, ⟨hO.rs fun _ h => h, hok, by dsimp only; omega, hh, hsz, by dsimp only; rw [hnn]; exact hnod⟩, hst, hOo, hoks, rfl⟩
end Go.Proofs.Ytmjklmjdmocaiaa.X
