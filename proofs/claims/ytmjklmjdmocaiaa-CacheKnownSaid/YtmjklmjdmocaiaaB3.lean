/-
  The reference's cache: its rows, New, Get and Put, by walks of my own.
-/
import Derived.Test.YtmjklmjdmocaiaaA9
namespace Go.Proofs.Ytmjklmjdmocaiaa.X
open Go Go.RowKit
set_option linter.unusedVariables false
set_option linter.unusedSimpArgs false
structure Rk where
  n : Int
  p : Option Addr
  m : Nat
  c : Nat
  bs : List Int
  asked : Bool
  tick : Int
def Rk.sl (x : Rk) : Value := .slice x.p x.m x.c
def Rk.enc (x : Rk) : List Value := [.int .u16 x.n, .slice x.p x.m x.c, .bool x.asked, .int .u64 x.tick]
theorem Rk.len (x : Rk) : x.enc.length = 4 := rfl
theorem Rk.one (l : List Rk) : (l.flatMap Rk.enc).all (·.oneCell') = true := by
  rw [List.all_eq_true]
  intro v hv
  obtain ⟨x, _, hx⟩ := List.mem_flatMap.1 hv
  simp only [Rk.enc, List.mem_cons, List.not_mem_nil, or_false] at hx
  rcases hx with rfl | rfl | rfl | rfl <;> rfl
def Rk.pp (x : Rk) : Pp := ⟨x.n, x.bs, x.asked, x.tick⟩
structure Rk.Ok (W : World) (x : Rk) : Prop where
  len : x.bs.length = x.m
  rs : Rs W [] x.p (ints .u8 x.bs)
  le : x.m ≤ 1000
  t0 : 0 ≤ x.tick
  t1 : x.tick ≤ 18446744073709551615
structure Rc where
  size : Int
  hold : Int
  rows : List Rk
  p : Option Addr
  c : Nat
  l : List Blk
def Rc.cells (x : Rc) : List Value := [.int .i64 x.size, .int .u64 x.hold, .slice x.p x.rows.length x.c]
structure Rc.Ok (W : World) (x : Rc) : Prop where
  rs : Rs W x.l x.p (x.rows.flatMap Rk.enc)
  rows : ∀ r, r ∈ x.rows → r.Ok W
  few : x.rows.length ≤ 2000
  h0 : 0 ≤ x.hold ∧ x.hold ≤ 18446744073709551615
  s0 : 1 ≤ x.size ∧ x.size ≤ 1024
  nod : (x.rows.map Rk.n).Nodup
def Rc.st (x : Rc) : Sta := ⟨x.size, x.hold, x.rows.map Rk.pp⟩
theorem xf_rnew_bad {W : World} {L : List Blk} (size hold : Int) (hs : size < 1 ∨ 1024 < size) : XF Try.prog W 15 #[.int .i64 size, .int .u64 hold] L (fun v L' => v = .tuple #[.agg #[.int .i64 0, .int .u64 0, .slice none 0 0], .int .i64 2] ∧ L' = L) := by
  refine xf_enter (args := [_, _]) Try.func15 rfl Try.ntmps15 rfl ?_
  focus
    refine xc_seq ?_
    refine xc_region ?_
    refine xo_ef rfl (ef_alloc fun r4 => ?_)
    refine xo_rd (rd_assign rfl) rfl ?_
    refine xo_nil ?_
    refine xq_seq ?_
    refine xc_seq ?_
    refine xc_seq ?_
    refine xc_region ?_
    refine xo_rd (rd_move rfl) rfl ?_
    refine xo_rd (rd_lss rfl rfl) rfl ?_
    refine xo_rd (rd_move rfl) rfl ?_
    refine xo_dec 8 rfl (fun h1 => ?_) (fun h1 => ?_)
    refine xo_gskip rfl rfl rfl rfl ?_
    refine xo_gskip rfl rfl rfl rfl ?_
    refine xo_rd (rd_pickt rfl rfl) rfl ?_
    refine xo_nil ?_
    refine xq_seq ?_
    refine xc_condt rfl ?_
    refine xc_seq ?_
    refine xc_region ?_
    refine xo_rd (rd_build rfl rfl rfl) rfl ?_
    refine xo_ef rfl (ef_storeB [] _ rfl rfl (by first | rfl | assumption) rfl rfl rfl ?_)
    refine xo_rd (rd_assign rfl) rfl ?_
    refine xo_nil ?_
    refine xq_seq ?_
    refine xc_ret ?_
    refine xq_then_ret ?_
    rotate_left
    refine xo_grd rfl rfl (rd_move rfl) rfl ?_
    refine xo_grd rfl rfl (rd_gtr rfl rfl) rfl ?_
    refine xo_rd (rd_pickf rfl rfl) rfl ?_
    refine xo_nil ?_
    refine xq_seq ?_
    refine xc_dec rfl (fun h2 => ?_) (fun h2 => (by exfalso; omega))
    refine xc_seq ?_
    refine xc_region ?_
    refine xo_rd (rd_build rfl rfl rfl) rfl ?_
    refine xo_ef rfl (ef_storeB [] _ rfl rfl (by first | rfl | assumption) rfl rfl rfl ?_)
    refine xo_rd (rd_assign rfl) rfl ?_
    refine xo_nil ?_
    refine xq_seq ?_
    refine xc_ret ?_
    refine xq_then_ret ?_
    rotate_left
  all_goals exact xq_retB2 (.inl rfl) Try.results15 rfl rfl Kn.o0 rfl (List.sublist_cons_self _ _) ⟨rfl, rfl⟩
theorem xf_rnew {W : World} {L : List Blk} (size hold : Int) (hs : 1 ≤ size ∧ size ≤ 1024) : XF Try.prog W 15 #[.int .i64 size, .int .u64 hold] L (fun v L' => v = .tuple #[.agg (Rc.mk size hold [] none 0 []).cells.toArray, .int .i64 0] ∧ L' = L) := by
  refine xf_enter (args := [_, _]) Try.func15 rfl Try.ntmps15 rfl ?_
  focus
    refine xc_seq ?_
    refine xc_region ?_
    refine xo_ef rfl (ef_alloc fun r4 => ?_)
    refine xo_rd (rd_assign rfl) rfl ?_
    refine xo_nil ?_
    refine xq_seq ?_
    refine xc_seq ?_
    refine xc_seq ?_
    refine xc_region ?_
    refine xo_rd (rd_move rfl) rfl ?_
    refine xo_rd (rd_lss rfl rfl) rfl ?_
    refine xo_rd (rd_move rfl) rfl ?_
    refine xo_dec 8 rfl (fun h1 => (by exfalso; omega)) (fun h1 => ?_)
    refine xo_grd rfl rfl (rd_move rfl) rfl ?_
    refine xo_grd rfl rfl (rd_gtr rfl rfl) rfl ?_
    refine xo_rd (rd_pickf rfl rfl) rfl ?_
    refine xo_nil ?_
    refine xq_seq ?_
    refine xc_dec rfl (fun h2 => (by exfalso; omega)) (fun h2 => ?_)
    refine xc_skip ?_
    refine xq_seq ?_
    refine xc_seq ?_
    refine xc_region ?_
    refine xo_rd (rd_move rfl) rfl ?_
    refine xo_rd (rd_move rfl) rfl ?_
    refine xo_rd (rd_build rfl rfl rfl) rfl ?_
    refine xo_ef rfl (ef_storeB [] _ rfl rfl (by first | rfl | assumption) rfl rfl rfl ?_)
    refine xo_rd (rd_assign rfl) rfl ?_
    refine xo_nil ?_
    refine xq_seq ?_
    refine xc_ret ?_
  exact xq_retB2 (.inl rfl) Try.results15 rfl rfl Kn.o0 rfl (List.sublist_cons_self _ _) ⟨rfl, rfl⟩
theorem rhas (x : Rc) (n : Int) : x.st.has n = (x.rows.find? (fun r => r.n == n)).map Rk.pp := by
  unfold Sta.has Rc.st
  dsimp only
  rw [List.find?_map]; rfl
theorem find_at (rows : List Rk) (n : Int) (k : Nat) (hk : k < rows.length) (h1 : rows[k].n = n) (h : ∀ i, (hi : i < k) → (rows[i]'(by omega)).n ≠ n) : rows.find? (fun r => r.n == n) = some rows[k] := by
  rw [List.find?_eq_some_iff_getElem]
  exact ⟨by simpa using h1, k, hk, rfl, fun j hj => by simpa using h j hj⟩
theorem xf_rget {W : World} {L : List Blk} (x : Rc) (hx : x.Ok W) (hsub : ∀ z, z ∈ x.l → z ∈ L) (n : Int) : XF Try.prog W 17 #[.agg x.cells.toArray, .int .u16 n] L (fun v L' => ∃ p m c bs b, v = .tuple #[.slice p m c, .bool b] ∧ Rs W [] p (ints .u8 bs) ∧ bs.length = m ∧ m ≤ 1000 ∧ ((b = true ∧ ∃ q, x.st.has n = some q ∧ q.bs = bs) ∨ (b = false ∧ x.st.has n = none ∧ bs = [])) ∧ L' = L) := by
  obtain ⟨size, hold, rows, p, c, l⟩ := x
  obtain ⟨hr, hrows, hfew, hh, hsz, hnod⟩ := hx
  dsimp only at hr hrows hfew hh hsub
  refine xf_enter (args := [_, _]) Try.func17 rfl Try.ntmps17 rfl ?_
  focus
    refine xc_seq ?_
    refine xc_region ?_
    refine xo_ef rfl (ef_box rfl fun r2 => ?_)
    refine xo_rd (rd_assign rfl) rfl ?_
    refine xo_rd (rd_assign rfl) rfl ?_
    refine xo_nil ?_
    refine xq_seq ?_
    refine xc_seq ?_
    refine xc_seq ?_
    refine xc_region ?_
    refine xo_rd (rd_assign rfl) rfl ?_
    refine xo_nil ?_
    refine xq_seq ?_
    refine xc_block ?_
  refine xc_loopI (ι := Nat) (fun k => k ≤ rows.length ∧ ∀ i, (hi : i < k) → (h2 : i < rows.length) → rows[i].n ≠ n) (fun k => rows.length - k) (fun _ => (r2, .cells [.int .i64 size, .int .u64 hold, .slice p rows.length c].toArray 43 (0, 0)) :: L) (fun k => [(1, .int .u16 n), (2, .pointer (some ⟨r2, 0, none⟩)), (6, .int .i64 k)]) 0 ⟨Nat.zero_le _, fun i hi => by omega⟩ rfl (by repeat (first | exact keep_nil | refine keep_cons rfl ?_)) ?_
  rintro k ⟨hk, hno⟩
  focus
    refine xc_seq ?_
    refine xc_seq ?_
    refine xc_region ?_
    refine xo_rd (rd_move rfl) rfl ?_
    refine xo_rd (rd_fieldAddr rfl) rfl ?_
    refine xo_rd (rd_load1 rfl (Cl.o0 rfl)) rfl ?_
    refine xo_rd (rd_len rfl) rfl ?_
    refine xo_rd (rd_lss rfl rfl) rfl ?_
    refine xo_nil ?_
    refine xq_seq ?_
    refine xc_dec rfl (fun hk1 => ?_) (fun hk1 => ?_)
    refine xc_skip ?_
    refine xq_seq ?_
    refine xc_seq ?_
    refine xc_block ?_
    refine xc_seq ?_
    refine xc_region ?_
    refine xo_rd (rd_fieldAddr rfl) rfl ?_
    refine xo_rd (rd_load1 rfl (Cl.o0 rfl)) rfl ?_
    refine xo_rd (rd_move rfl) rfl ?_
    rotate_left
    refine xc_exit ?_
    refine xq_then_exit ?_
    refine xq_then_exit ?_
    refine xq_block_hit ?_
    refine xq_seq ?_
    refine xc_seq ?_
    refine xc_region ?_
    refine xo_rd (rd_assign rfl) rfl ?_
    refine xo_rd (rd_assign rfl) rfl ?_
    refine xo_nil ?_
    refine xq_seq ?_
    refine xc_ret ?_
    rotate_left
  · have hkn : k < rows.length := by omega
    obtain ⟨b, o, rfl, hc⟩ := (hr.mono hsub).row Rk.len (by decide) hkn
    have hg := hrows _ (List.getElem_mem hkn)
    focus
      refine xo_rd (rd_indexAddr rfl rfl (by omega) (by omega)) rfl ?_
      refine xo_rd (rd_fieldAddr rfl) rfl ?_
      refine xo_rd (rd_load1 rfl (hc 0 _ rfl).skip) rfl ?_
      refine xo_rd (rd_move rfl) rfl ?_
      refine xo_rd (rd_eql rfl rfl) rfl ?_
      refine xo_nil ?_
      refine xq_seq ?_
      refine xc_dec rfl (fun hq1 => ?_) (fun hq1 => ?_)
      refine xc_seq ?_
      refine xc_region ?_
      refine xo_rd (rd_fieldAddr rfl) rfl ?_
      refine xo_rd (rd_load1 rfl (Cl.o0 rfl)) rfl ?_
      refine xo_rd (rd_move rfl) rfl ?_
      refine xo_rd (rd_indexAddr rfl rfl (by omega) (by omega)) rfl ?_
      refine xo_rd (rd_fieldAddr rfl) rfl ?_
      refine xo_rd (rd_load1 rfl (hc 1 _ rfl).skip) rfl ?_
      refine xo_rd (rd_assign rfl) rfl ?_
      refine xo_rd (rd_assign rfl) rfl ?_
      refine xo_nil ?_
      refine xq_seq ?_
      refine xc_ret ?_
      refine xq_block_ret ?_
      refine xq_then_ret ?_
      refine xq_then_ret ?_
      refine xq_block_ret ?_
      refine xq_then_ret ?_
      rotate_left
      refine xc_skip ?_
      refine xq_block ?_
      refine xq_seq ?_
      refine xc_region ?_
      refine xo_rd (rd_move rfl) rfl ?_
      refine xo_rd (rd_addn rfl rfl (by omega) (by omega)) rfl ?_
      refine xo_rd (rd_assign rfl) rfl ?_
      refine xo_nil ?_
      rotate_left
    · refine xq_tail ?_
      refine xq_ret2 (.inl rfl) Try.results17 rfl rfl ⟨_, _, _, rows[k].bs, true, rfl, hg.rs, hg.len, hg.le, .inl ⟨rfl, rows[k].pp, ?_, rfl⟩, rfl⟩
      rw [rhas, find_at rows n k hkn hq1 (fun i hi => hno i hi (by omega))]
      rfl
    · refine xq_roundI (k + 1) ⟨by omega, fun i hi h2 => ?_⟩ (by omega) rfl (by repeat (first | exact keep_nil | refine keep_cons rfl ?_))
      by_cases he : i = k
      · subst he; exact hq1
      · exact hno i (by omega) h2
  · refine xq_tail ?_
    refine xq_ret2 (.inl rfl) Try.results17 rfl rfl ⟨none, 0, 0, [], false, rfl, Rs.nil, rfl, by omega, .inr ⟨rfl, ?_, rfl⟩, rfl⟩
    rw [rhas]
    have : rows.find? (fun r => r.n == n) = none := by
      rw [List.find?_eq_none]
      intro r hr
      obtain ⟨i, hi, rfl⟩ := List.getElem_of_mem hr
      simpa using hno i (by omega) hi
    rw [this]; rfl
theorem filt_erase (rows : List Rk) (n : Int) (h : (rows.map Rk.n).Nodup) : rows.filter (fun r => !(r.n == n)) = rows.eraseP (fun r => r.n == n) := by
  induction rows with
  | nil => rfl
  | cons r t ih =>
    rw [List.map_cons, List.nodup_cons] at h
    rw [List.eraseP_cons, List.filter_cons]
    cases hb : r.n == n
    · simp [ih h.2]
    · simp only [Bool.not_true, Bool.false_eq_true, if_false, cond_true]
      rw [List.filter_eq_self]
      intro a ha
      have hr : r.n = n := by simpa using hb
      have : a.n ≠ n := fun e => h.1 (List.mem_map.2 ⟨a, ha, by rw [e, hr]⟩)
      simpa using this
structure RpS where
  i : Nat
  v : Value
  l : List Blk
structure RpI (rows : List Rk) (n : Int) (s : RpS) : Prop where
  i : s.i ≤ rows.length
  o : SlO 4 70 s.v ((rows.take s.i).filter (fun r => !(r.n == n))).length (((rows.take s.i).filter (fun r => !(r.n == n))).flatMap Rk.enc) s.l
set_option maxHeartbeats 4000000 in
theorem xf_rput {W : World} {L : List Blk} (x : Rc) (hx : x.Ok W) (hfit : (x.rows.length : Int) ≤ x.size) (hsub : ∀ z, z ∈ x.l → z ∈ L) (n : Int) (q : Option Addr) (m k : Nat) (bs : List Int) (hb : bs.length = m) (hrb : Rs W [] q (ints .u8 bs)) (hm : m ≤ 1000) :
    XF Try.prog W 22 #[.agg x.cells.toArray, .int .u16 n, .slice q m k] L (fun v L' => ∃ y : Rc, v = .agg y.cells.toArray ∧ y.Ok W ∧ y.st = x.st.put n bs ∧ L' = y.l ++ L) := by
  obtain ⟨size, hold, rows, p, c, l⟩ := x
  obtain ⟨hr, hrows, hfew, hh, hsz, hnod⟩ := hx
  dsimp only at hr hrows hfew hh hsub hsz hnod hfit
  refine xf_enter (args := [_, _, _]) Try.func22 rfl Try.ntmps22 rfl ?_
  focus
    refine xc_seq ?_
    refine xc_region ?_
    refine xo_ef rfl (ef_box rfl fun r3 => ?_)
    refine xo_ef rfl (ef_alloc fun r6 => ?_)
    refine xo_nil ?_
    refine xq_seq ?_
    refine xc_seq ?_
    refine xc_region ?_
    refine xo_rd (rd_assign rfl) rfl ?_
    refine xo_nil ?_
    refine xq_seq ?_
    refine xc_seq ?_
    refine xc_seq ?_
    refine xc_region ?_
    refine xo_rd (rd_assign rfl) rfl ?_
    refine xo_nil ?_
    refine xq_seq ?_
    refine xc_block ?_
  refine xc_loopI (ι := RpS) (RpI rows n) (fun s => rows.length - s.i) (fun s => (r6, .cells #[.int .i64 0, .int .u64 0, .slice none 0 0] 43 (0, 0)) :: (r3, .cells [.int .i64 size, .int .u64 hold, .slice p rows.length c].toArray 43 (0, 0)) :: (s.l ++ L)) (fun s => [(1, .int .u16 n), (2, .slice q m k), (3, .pointer (some ⟨r3, 0, none⟩)), (6, .pointer (some ⟨r6, 0, none⟩)), (7, s.v), (8, .int .i64 s.i)]) ⟨0, .slice none 0 0, []⟩ ⟨Nat.zero_le _, SlO.nil⟩ rfl (by repeat (first | exact keep_nil | refine keep_cons rfl ?_)) ?_
  rintro ⟨i, v, l1⟩ ⟨hi, hO⟩
  dsimp only at hi hO ⊢
  have hfl : ((rows.take i).filter (fun r => !(r.n == n))).length ≤ 2000 := Nat.le_trans (List.length_filter_le _ _) (by rw [List.length_take]; omega)
  focus
    refine xc_seq ?_
    refine xc_seq ?_
    refine xc_region ?_
    refine xo_rd (rd_move rfl) rfl ?_
    refine xo_rd (rd_fieldAddr rfl) rfl ?_
    refine xo_rd (rd_load1 rfl (Cl.o1 rfl)) rfl ?_
    refine xo_rd (rd_len rfl) rfl ?_
    refine xo_rd (rd_lss rfl rfl) rfl ?_
    refine xo_nil ?_
    refine xq_seq ?_
    refine xc_dec rfl (fun hi1 => ?_) (fun hi1 => ?_)
    refine xc_skip ?_
    refine xq_seq ?_
    refine xc_seq ?_
    refine xc_block ?_
    refine xc_seq ?_
    refine xc_region ?_
    refine xo_rd (rd_fieldAddr rfl) rfl ?_
    refine xo_rd (rd_load1 rfl (Cl.o1 rfl)) rfl ?_
    refine xo_rd (rd_move rfl) rfl ?_
    rotate_left
    refine xc_exit ?_
    refine xq_then_exit ?_
    refine xq_then_exit ?_
    refine xq_block_hit ?_
    refine xq_seq ?_
    refine xc_seq ?_
    refine xc_region ?_
    refine xo_rd (rd_move rfl) rfl ?_
    refine xo_rd (rd_move rfl) rfl ?_
    refine xo_rd (rd_move rfl) rfl ?_
    refine xo_rd (rd_build rfl rfl rfl) rfl ?_
    rotate_left
  · have hin : i < rows.length := by omega
    obtain ⟨b, o, rfl, hc⟩ := (hr.mono hsub).row Rk.len (by decide) hin
    have hg := hrows _ (List.getElem_mem hin)
    have hfs : (rows.take (i + 1)).filter (fun r => !(r.n == n)) = (rows.take i).filter (fun r => !(r.n == n)) ++ (if rows[i].n = n then [] else [rows[i]]) := by
      rw [List.take_add_one, List.getElem?_eq_getElem hin, List.filter_append]
      congr 1
      by_cases h : rows[i].n = n <;> simp [h]
    generalize rows[i] = x0 at *
    have hc' : ∀ (A : List Blk), ∀ (j : Nat) (u : Value), x0.enc[j]? = some u → Cl W (A ++ L) b (o + i * 4 + j) u := fun A j u hj => (hc j u hj).app
    focus
      refine xo_rd (rd_indexAddr rfl rfl (by omega) (by omega)) rfl ?_
      refine xo_rd (rd_fieldAddr rfl) rfl ?_
      refine xo_rd (rd_load1 rfl (hc' (_ :: _ :: l1) 0 _ rfl)) rfl ?_
      refine xo_rd (rd_move rfl) rfl ?_
      refine xo_rd (rd_neq rfl rfl) rfl ?_
      refine xo_nil ?_
      refine xq_seq ?_
      refine xc_ndec rfl (fun hq1 => ?_) (fun hq1 => ?_)
      refine xc_region ?_
      refine xo_rd (rd_move rfl) rfl ?_
      refine xo_rd (rd_fieldAddr rfl) rfl ?_
      refine xo_rd (rd_load1 rfl (Cl.o1 rfl)) rfl ?_
      refine xo_rd (rd_move rfl) rfl ?_
      refine xo_rd (rd_indexAddr rfl rfl (by omega) (by omega)) rfl ?_
      refine xo_rd (rd_loadA (vs := x0.enc) rfl rfl (hc' (_ :: _ :: l1))) rfl ?_
      rotate_left
      refine xc_skip ?_
      refine xq_block ?_
      refine xq_seq ?_
      refine xc_region ?_
      refine xo_rd (rd_move rfl) rfl ?_
      refine xo_rd (rd_addn rfl rfl (by omega) (by omega)) rfl ?_
      refine xo_rd (rd_assign rfl) rfl ?_
      refine xo_nil ?_
      rotate_left
    · refine xo_ef rfl (ef_sliceA (vs := x0.enc) rfl rfl (by rw [Rk.len]; decide) (by rw [Rk.len]; decide) fun r30 => ?_)
      refine xo_ef rfl (ef_append [_, _, _] L l1 rfl rfl hO rfl (Rs.fresh (List.Mem.head _)) rfl rfl (by decide) (by omega) (by omega) fun v' l' hO' => ?_)
      refine xo_tail ?_
      focus
        refine xo_rd (rd_assign rfl) rfl ?_
        refine xo_nil ?_
        refine xq_block ?_
        refine xq_seq ?_
        refine xc_region ?_
        refine xo_rd (rd_move rfl) rfl ?_
        refine xo_rd (rd_addn rfl rfl (by omega) (by omega)) rfl ?_
        refine xo_rd (rd_assign rfl) rfl ?_
        refine xo_nil ?_
      refine xq_roundI (⟨i + 1, v', l'⟩ : RpS) ⟨by dsimp only; omega, ?_⟩ (by dsimp only; omega) rfl (by repeat (first | exact keep_nil | refine keep_cons rfl ?_))
      dsimp only
      rw [hfs, if_neg hq1, List.length_append, List.flatMap_append]
      simpa using hO'
    · refine xq_roundI (⟨i + 1, v, l1⟩ : RpS) ⟨by dsimp only; omega, ?_⟩ (by dsimp only; omega) rfl (by repeat (first | exact keep_nil | refine keep_cons rfl ?_))
      dsimp only
      rw [hfs, if_pos hq1, List.append_nil]
      exact hO
  · have hil : i = rows.length := by omega
    subst hil
    rw [List.take_length, filt_erase rows n hnod] at hO hfl
    generalize hrs : rows.eraseP (fun r => r.n == n) = rs at *
    have hrsok : ∀ r, r ∈ rs → r.Ok W := fun r h => hrows r (by rw [← hrs] at h; exact List.mem_of_mem_eraseP h)
    have hx1 : Rk.Ok W ⟨n, q, m, k, bs, false, 0⟩ := ⟨hb, hrb, hm, Int.le_refl 0, by dsimp only; omega⟩
    have hlen1 : rs.length ≤ rows.length := by rw [← hrs]; exact List.length_eraseP_le
    have hnn : n ∉ rs.map Rk.n := by
      rw [← hrs]
      intro h
      obtain ⟨r, hr, e⟩ := List.mem_map.1 h
      rw [← filt_erase rows n hnod] at hr
      have := (List.mem_filter.1 hr).2
      simp [e] at this
    have hnod2 : ((rs ++ [(⟨n, q, m, k, bs, false, 0⟩ : Rk)]).map Rk.n).Nodup := by
      rw [List.map_append]
      refine List.nodup_append.2 ⟨?_, by simp, ?_⟩
      · rw [← hrs]; exact hnod.sublist (List.eraseP_sublist.map _)
      · intro a ha b hb e
        simp only [List.map_cons, List.map_nil, List.mem_singleton] at hb
        subst hb; subst e; exact hnn ha
    have hpp : (rs ++ [(⟨n, q, m, k, bs, false, 0⟩ : Rk)]).map Rk.pp = (rows.map Rk.pp).eraseP (fun p => p.n == n) ++ [⟨n, bs, false, 0⟩] := by
      rw [List.map_append, ← hrs, List.eraseP_map]
      rfl
    have hok2 : ∀ r, r ∈ rs ++ [(⟨n, q, m, k, bs, false, 0⟩ : Rk)] → r.Ok W := fun r h => by
      rcases List.mem_append.1 h with h | h
      · exact hrsok r h
      · rw [List.mem_singleton] at h; subst h; exact hx1
    refine xo_ef rfl (ef_sliceA (vs := (⟨n, q, m, k, bs, false, 0⟩ : Rk).enc) rfl rfl (by rw [Rk.len]; decide) (by rw [Rk.len]; decide) fun r36 => ?_)
    refine xo_ef rfl (ef_append [_, _, _] L l1 rfl rfl hO rfl (Rs.fresh (List.Mem.head _)) rfl rfl (by decide) (by omega) (by omega) fun v' l' hO' => ?_)
    refine xo_tail ?_
    have hO2 : SlO 4 70 v' (rs ++ [(⟨n, q, m, k, bs, false, 0⟩ : Rk)]).length ((rs ++ [(⟨n, q, m, k, bs, false, 0⟩ : Rk)]).flatMap Rk.enc) l' := by
      rw [List.length_append, List.flatMap_append]
      simpa using hO'
    have hl2 : (rs ++ [(⟨n, q, m, k, bs, false, 0⟩ : Rk)]).length = rs.length + 1 := by simp
    generalize rs ++ [(⟨n, q, m, k, bs, false, 0⟩ : Rk)] = rs2 at *
    have hpos : 0 < rs2.length := by omega
    have hle2 : rs2.length ≤ 2001 := by omega
    have hszle : (rs2.length : Int) ≤ size + 1 := by omega
    rw [← hl2] at *
    obtain ⟨b1, rest, cap, rfl, hcap, hle⟩ := hO2.cut hpos
    have hrs2 := hO2.rs (W := W) (L := l') (fun _ h => h)
    focus
      refine xo_rd (rd_assign rfl) rfl ?_
      refine xo_nil ?_
      refine xq_seq ?_
      refine xc_seq ?_
      refine xc_seq ?_
      refine xc_region ?_
      refine xo_rd (rd_move rfl) rfl ?_
      refine xo_rd (rd_len rfl) rfl ?_
      refine xo_rd (rd_fieldAddr rfl) rfl ?_
      refine xo_rd (rd_load1 rfl (Cl.o1 rfl)) rfl ?_
      refine xo_rd (rd_gtr rfl rfl) rfl ?_
      refine xo_nil ?_
      refine xq_seq ?_
      refine xc_dec rfl (fun hs1 => ?_) (fun hs1 => ?_)
      refine xc_region ?_
      refine xo_rd (rd_move rfl) rfl ?_
      refine xo_rd (rd_sliceLo rfl rfl (by omega) (by omega) (by omega)) rfl ?_
      refine xo_rd (rd_assign rfl) rfl ?_
      refine xo_nil ?_
      refine xq_seq ?_
      refine xc_seq ?_
      refine xc_region ?_
      refine xo_rd (rd_move rfl) rfl ?_
      refine xo_rd (rd_fieldAddr rfl) rfl ?_
      refine xo_ef rfl (ef_store1 [_] _ rfl rfl (by first | rfl | assumption) rfl rfl rfl ?_)
      refine xo_nil ?_
      refine xq_seq ?_
      refine xc_seq ?_
      refine xc_region ?_
      refine xo_rd (rd_loadB rfl Kn.o1 (by rfl)) rfl ?_
      refine xo_ef rfl (ef_storeB [] _ rfl rfl (by first | rfl | assumption) rfl rfl rfl ?_)
      refine xo_nil ?_
      refine xq_seq ?_
      refine xc_ret ?_
      rotate_left
      refine xc_skip ?_
      refine xq_seq ?_
      refine xc_seq ?_
      refine xc_region ?_
      refine xo_rd (rd_move rfl) rfl ?_
      refine xo_rd (rd_fieldAddr rfl) rfl ?_
      refine xo_ef rfl (ef_store1 [_] _ rfl rfl (by first | rfl | assumption) rfl rfl rfl ?_)
      refine xo_nil ?_
      refine xq_seq ?_
      refine xc_seq ?_
      refine xc_region ?_
      refine xo_rd (rd_loadB rfl Kn.o1 (by rfl)) rfl ?_
      refine xo_ef rfl (ef_storeB [] _ rfl rfl (by first | rfl | assumption) rfl rfl rfl ?_)
      refine xo_nil ?_
      refine xq_seq ?_
      refine xc_ret ?_
      rotate_left
    · exact xq_retB (.inl rfl) Try.results22 rfl Kn.o0 rfl (L' := l' ++ L) ((List.sublist_cons_self _ _).trans (List.sublist_cons_self _ _)) ⟨⟨size, hold, rs2.tail, some ⟨b1, 0 + Int.toNat 1 * 4, none⟩, cap - Int.toNat 1, l'⟩, by unfold Rc.cells; dsimp only; rw [List.length_tail]; rfl, ⟨by
          dsimp only
          rw [show rs2.tail.flatMap Rk.enc = (rs2.flatMap Rk.enc).drop 4 from by cases rs2 <;> rfl]
          exact hrs2.drop 4, fun r h => hok2 r (List.mem_of_mem_tail h), by dsimp only; rw [List.length_tail]; omega, hh, hsz, by dsimp only; rw [List.map_tail]; exact hnod2.tail⟩, by
          unfold Rc.st Sta.put cutTo
          dsimp only
          rw [← hpp, List.map_tail, if_pos (by rw [List.length_map]; exact hs1)], rfl⟩
    · exact xq_retB (.inl rfl) Try.results22 rfl Kn.o0 rfl (L' := l' ++ L) ((List.sublist_cons_self _ _).trans (List.sublist_cons_self _ _)) ⟨⟨size, hold, rs2, some ⟨b1, 0, none⟩, cap, l'⟩, rfl, ⟨hrs2, hok2, by dsimp only; omega, hh, hsz, hnod2⟩, by
          unfold Rc.st Sta.put cutTo
          dsimp only
          rw [← hpp, if_neg (by rw [List.length_map]; exact hs1)], rfl⟩
end Go.Proofs.Ytmjklmjdmocaiaa.X
