/-
  BudgetFair: a walk of my own.
-/
import Derived.Test.YtnghandgghfloaaB5
import Derived.Test.YtnghandgghfloaaB6
namespace Go.Proofs.Ytnghandgghfloaa.X
open Go Go.RowKit
set_option linter.unusedVariables false
set_option linter.unusedSimpArgs false
theorem xf_allocK {W : World} {L : List Blk} (rate : Int) (p q : Option Addr) (n c m d : Nat) (ct cm : List Int) (hn : ct.length = n) (hm : cm.length = m) (hr : Rs W L p (ints .u64 ct)) (hq : Rs W L q (ints .u64 cm)) (hU : ∀ x, x ∈ ct → U x) (hU2 : ∀ x, x ∈ cm → U x) (hb : n ≤ 1000) (hb2 : m ≤ 1000) (hR : Rgt ct cm) (cap : Int) (on : Int) (hz : pk ct cm rate n m = some (cap, on)) :
    XF Try.prog W 11 #[.int .u64 rate, .agg #[.slice p n c, .slice q m d]] L (fun v L' => ∃ s k l, v = .tuple #[.agg #[.int .i64 cap, .slice s m k], .int .i64 0] ∧ SlO 1 4 (.slice s m k) m (bls (fl m on)) l ∧ L' = l ++ L) := by
  refine (xf_alloc2 rate p q n c m d ct cm hn hm hr hq hU hU2 hb hb2 hR (cap, fl m on) (by rw [pick_pk, hz]; rfl)).mono ?_
  rintro v L' ⟨s, k, l, rfl, h1, rfl⟩
  rw [show (cap, fl m on).2.length = m from fl_len _ _] at h1 ⊢
  exact ⟨s, k, l, rfl, h1, rfl⟩
theorem fl_cell {W : World} {L l : List Blk} {b m c : Nat} {on : Int} (hO : SlO 1 4 (.slice (some ⟨b, 0, none⟩) m c) m (bls (fl m on)) l) (hl : ∀ z, z ∈ l → z ∈ L) (j : Int) (h0 : 0 ≤ j) (hj : j < m) : Cl W L b (0 + j.toNat * 1) (.bool (decide (j < on))) := by
  obtain ⟨k, rfl⟩ : ∃ k : Nat, j = k := ⟨j.toNat, by omega⟩
  have := bls_cell (W := W) hO hl k (by rw [fl_len]; omega)
  rwa [show (fl m on)[k]'(by rw [fl_len]; omega) = decide ((k : Int) < on) from by simp [fl]] at this
set_option maxHeartbeats 4000000 in
theorem xf_BudgetFair {W : World} (rate more : Int) (p q : Option Addr) (n c m d : Nat) (ct cm : List Int) (hn : ct.length = n) (hm : cm.length = m) (hr : Rs W [] p (ints .u64 ct)) (hq : Rs W [] q (ints .u64 cm)) (hU : ∀ x, x ∈ ct → U x) (hU2 : ∀ x, x ∈ cm → U x) (hb : n ≤ 9223372036854775807) (hb2 : m ≤ 9223372036854775807) (h0 : U rate) (h1 : U more) :
    XF Try.prog W 4 #[.int .u64 rate, .int .u64 more, .agg #[.slice p n c, .slice q m d]] [] (fun v L' => v = .bool true) := by
  refine xf_enter (args := [_, _, _]) Try.func4 rfl Try.ntmps4 rfl ?_
  have hr' : ∀ L, Rs W L p (ints .u64 ct) := fun L => hr.nilL
  have hq' : ∀ L, Rs W L q (ints .u64 cm) := fun L => hq.nilL
  unfold U at h0 h1
  focus
    refine xc_seq ?_
    refine xc_region ?_
    refine xo_ef rfl (ef_box rfl fun r5 => ?_)
    refine xo_rd (rd_assign rfl) rfl ?_
    refine xo_nil ?_
    refine xq_seq ?_
    refine xc_seq ?_
    refine xc_seq ?_
    refine xc_region ?_
    refine xo_rd (rd_loadB rfl Kn.o0 (by rfl)) rfl ?_
    refine xo_ef rfl (ef_call rfl (XF.mono (xf_few p q n c m d hb hb2) ?_))
    rintro v L' ⟨⟨b, rfl, hbf⟩, rfl⟩
    refine xo_rd (rd_not rfl) rfl ?_
    refine xo_rd (rd_move rfl) rfl ?_
    refine xo_split 15 rfl (fun hh1 => ?_) (fun hh1 => ?_)
    refine xo_gskip rfl rfl rfl rfl ?_
    refine xo_gskip rfl rfl rfl rfl ?_
    refine xo_gskip rfl rfl rfl rfl ?_
    refine xo_rd (rd_pickt rfl rfl) rfl ?_
    refine xo_nil ?_
    refine xq_seq ?_
    refine xc_condt rfl ?_
    refine xc_seq ?_
    refine xc_region ?_
    refine xo_ef rfl (ef_call rfl (XF.mono (xf_any (fun W => xf_works)) ?_))
    rintro v L' ⟨rfl, rfl⟩
    refine xo_rd (rd_assign rfl) rfl ?_
    refine xo_nil ?_
    refine xq_seq ?_
    refine xc_ret ?_
    refine xq_then_ret ?_
    exact xq_ret1 (.inl rfl) Try.results4 rfl (rfl)
    refine xo_grd rfl rfl (rd_loadB rfl Kn.o0 (by rfl)) rfl ?_
    refine xo_gef rfl rfl rfl (ef_call rfl (XF.mono (xf_right p q n c m d ct cm hn hm (hr' _) hb hb2) ?_))
    rintro v L' ⟨⟨b2, rfl, hbr⟩, rfl⟩
    refine xo_grd rfl rfl (rd_not rfl) rfl ?_
    refine xo_rd (rd_pickf rfl rfl) rfl ?_
    refine xo_nil ?_
    refine xq_seq ?_
    refine xc_cond rfl (fun hh2 => ?_) (fun hh2 => ?_)
    refine xc_seq ?_
    refine xc_region ?_
    refine xo_ef rfl (ef_call rfl (XF.mono (xf_any (fun W => xf_works)) ?_))
    rintro v L' ⟨rfl, rfl⟩
    refine xo_rd (rd_assign rfl) rfl ?_
    refine xo_nil ?_
    refine xq_seq ?_
    refine xc_ret ?_
    refine xq_then_ret ?_
    exact xq_ret1 (.inl rfl) Try.results4 rfl (rfl)
    refine xc_skip ?_
    refine xq_seq ?_
  have hbt : b = true := by cases b <;> simp_all
  have hbt2 : b2 = true := by cases b2 <;> simp_all
  have hnm := hbf.1 hbt
  have hR := hbr.1 hbt2
  obtain ⟨⟨ca, on⟩, hx⟩ := pk_some ct cm rate h0.1 n m
  obtain ⟨⟨ca2, on2⟩, hy⟩ := pk_some ct cm (rate + min more (18446744073709551615 - rate)) (by omega) n m
  have hfair := pk_fair ct cm rate (rate + min more (18446744073709551615 - rate)) n m (by omega) _ _ hx hy
  have hmx := prs_mem (List.mem_of_find?_eq_some hx)
  have hcost : costC ct cm ca (fl m on) ≤ rate := by have := List.find?_some hx; simpa using this
  have hmtu : 0 < n → 1500 ≤ rate → 0 ≤ ca := fun h2 h3 => by subst hn; subst hm; exact pk_cap ct cm rate hR h2 h3 _ hx
  dsimp only at hfair hmx
  focus
    refine xc_seq ?_
    refine xc_region ?_
    refine xo_rd (rd_move rfl) rfl ?_
    refine xo_rd (rd_loadB rfl Kn.o0 (by rfl)) rfl ?_
    refine xo_ef rfl (ef_call rfl (XF.mono (xf_allocK rate p q n c m d ct cm hn hm (hr' _) (hq' _) hU hU2 (by omega) (by omega) hR ca on hx) ?_))
    rintro v L' ⟨s3, k3, l3, rfl, hO3, rfl⟩
    refine xo_perm List.perm_append_comm ?_
    refine xo_rd (rd_move rfl) rfl ?_
    refine xo_rd (rd_extract rfl rfl) rfl ?_
    refine xo_rd (rd_extract rfl rfl) rfl ?_
    refine xo_ef rfl (ef_alloc fun r7 => ?_)
    refine xo_ef rfl (ef_storeB [] _ rfl rfl (by first | rfl | assumption) rfl rfl rfl ?_)
    refine xo_rd (rd_assign rfl) rfl ?_
    refine xo_nil ?_
    refine xq_seq ?_
  focus
    refine xc_seq ?_
    refine xc_region ?_
    refine xo_rd (rd_move rfl) rfl ?_
    refine xo_rd (rd_move rfl) rfl ?_
    refine xo_rd (rd_move rfl) rfl ?_
    refine xo_rd (rd_subn rfl rfl (by omega) (by omega)) rfl ?_
    refine xo_rd (rd_minM rfl rfl) rfl ?_
    refine xo_rd (rd_addn rfl rfl (by omega) (by omega)) rfl ?_
    refine xo_rd (rd_loadB rfl Kn.o1 (by rfl)) rfl ?_
    refine xo_ef rfl (ef_call rfl (XF.mono (xf_allocK (rate + min more (18446744073709551615 - rate)) p q n c m d ct cm hn hm (hr' _) (hq' _) hU hU2 (by omega) (by omega) hR ca2 on2 hy) ?_))
    rintro v L' ⟨s4, k4, l4, rfl, hO4, rfl⟩
    refine xo_perm List.perm_append_comm ?_
    refine xo_rd (rd_move rfl) rfl ?_
    refine xo_rd (rd_extract rfl rfl) rfl ?_
    refine xo_rd (rd_extract rfl rfl) rfl ?_
    refine xo_ef rfl (ef_alloc fun r9 => ?_)
    refine xo_ef rfl (ef_storeB [] _ rfl rfl (by first | rfl | assumption) rfl rfl rfl ?_)
    refine xo_rd (rd_assign rfl) rfl ?_
    refine xo_nil ?_
    refine xq_seq ?_
  focus
    refine xc_seq ?_
    refine xc_seq ?_
    refine xc_region ?_
    refine xo_rd (rd_move rfl) rfl ?_
    refine xo_rd (rd_neq rfl rfl) rfl ?_
    refine xo_rd (rd_move rfl) rfl ?_
    refine xo_grd rfl rfl (rd_move rfl) rfl ?_
    refine xo_grd rfl rfl (rd_neq rfl rfl) rfl ?_
    refine xo_rd (rd_pickf rfl rfl) rfl ?_
    refine xo_rd (rd_move rfl) rfl ?_
    refine xo_grd rfl rfl (rd_loadB rfl Kn.o2 (by rfl)) rfl ?_
    refine xo_grd rfl rfl (rd_loadB rfl Kn.o1 (by rfl)) rfl ?_
    refine xo_gef rfl rfl rfl (ef_call rfl (XF.mono (xf_of p q s3 n c m d m k3 ct cm ca (fl m on) hn hm (fl_len _ _) (hr' _) (hq' _) (hO3.rs (by intro z hz; simp [hz])) hU hU2 (by omega) (by omega) (by omega)) ?_))
    rintro v L' ⟨rfl, rfl⟩
    refine xo_grd rfl rfl (rd_move rfl) rfl ?_
    refine xo_grd rfl rfl (rd_gtr rfl rfl) rfl ?_
    refine xo_rd (rd_pickf rfl rfl) rfl ?_
    refine xo_rd (rd_move rfl) rfl ?_
    refine xo_dec 51 rfl (fun h1 => (by exfalso; omega)) (fun h1 => ?_)
    refine xo_grd rfl rfl (rd_fieldAddr rfl) rfl ?_
    refine xo_grd rfl rfl (rd_load1 rfl (Cl.o0 rfl)) rfl ?_
    refine xo_grd rfl rfl (rd_fieldAddr rfl) rfl ?_
    refine xo_grd rfl rfl (rd_load1 rfl (Cl.o1 rfl)) rfl ?_
    refine xo_grd rfl rfl (rd_lss rfl rfl) rfl ?_
    refine xo_rd (rd_pickf rfl rfl) rfl ?_
    refine xo_rd (rd_move rfl) rfl ?_
    refine xo_dec 58 rfl (fun h2 => (by exfalso; omega)) (fun h2 => ?_)
    refine xo_grd rfl rfl (rd_fieldAddr rfl) rfl ?_
    refine xo_grd rfl rfl (rd_load1 rfl (Cl.o1 rfl)) rfl ?_
    refine xo_grd rfl rfl (rd_len rfl) rfl ?_
    refine xo_grd rfl rfl (rd_fieldAddr rfl) rfl ?_
    refine xo_grd rfl rfl (rd_load1 rfl (Cl.o2 rfl)) rfl ?_
    refine xo_grd rfl rfl (rd_len rfl) rfl ?_
    refine xo_grd rfl rfl (rd_neq rfl rfl) rfl ?_
    refine xo_rd (rd_pickf rfl rfl) rfl ?_
    refine xo_rd (rd_move rfl) rfl ?_
    refine xo_ndec 67 rfl (fun h => absurd rfl h) (fun _ => ?_)
    refine xo_grd rfl rfl (rd_fieldAddr rfl) rfl ?_
    refine xo_grd rfl rfl (rd_load1 rfl (Cl.o0 rfl)) rfl ?_
    refine xo_grd rfl rfl (rd_len rfl) rfl ?_
    refine xo_grd rfl rfl (rd_fieldAddr rfl) rfl ?_
    refine xo_grd rfl rfl (rd_load1 rfl (Cl.o1 rfl)) rfl ?_
    refine xo_grd rfl rfl (rd_len rfl) rfl ?_
    refine xo_grd rfl rfl (rd_neq rfl rfl) rfl ?_
    refine xo_rd (rd_pickf rfl rfl) rfl ?_
    refine xo_nil ?_
    refine xq_seq ?_
    refine xc_ndec rfl (fun h => absurd rfl h) (fun _ => ?_)
    refine xc_skip ?_
    refine xq_seq ?_
    refine xc_seq ?_
    refine xc_seq ?_
    refine xc_region ?_
    refine xo_rd (rd_assign rfl) rfl ?_
    refine xo_nil ?_
    refine xq_seq ?_
    refine xc_block ?_
  refine xc_loopI (ι := Nat) (fun i => i ≤ m) (fun i => m - i) (fun _ => ((r9, .cells #[.int .i64 ca2, .slice s4 m k4] 36 (0, 0)) :: (r7, .cells #[.int .i64 ca, .slice s3 m k3] 36 (0, 0)) :: (r5, .cells #[.slice p n c, .slice q m d] 25 (0, 0)) :: (l3 ++ l4))) (fun i => [(0, .int .u64 rate), (5, .pointer (some ⟨r5, 0, none⟩)), (6, .bool false), (7, .pointer (some ⟨r7, 0, none⟩)), (9, .pointer (some ⟨r9, 0, none⟩)), (11, .int .i64 i)]) 0 (by omega) rfl (by repeat (first | exact keep_nil | refine keep_cons rfl ?_)) ?_
  intro i hi
  focus
    refine xc_seq ?_
    refine xc_seq ?_
    refine xc_region ?_
    refine xo_rd (rd_move rfl) rfl ?_
    refine xo_rd (rd_fieldAddr rfl) rfl ?_
    refine xo_rd (rd_load1 rfl (Cl.o1 rfl)) rfl ?_
    refine xo_rd (rd_len rfl) rfl ?_
    refine xo_rd (rd_lss rfl rfl) rfl ?_
    refine xo_nil ?_
    refine xq_seq ?_
    refine xc_dec rfl (fun hi1 => ?_) (fun hi1 => ?_)
    refine xc_skip ?_
    refine xq_seq ?_
    rotate_left
    refine xc_exit ?_
    refine xq_then_exit ?_
    refine xq_then_exit ?_
    refine xq_block_hit ?_
    refine xq_seq ?_
    refine xc_seq ?_
    refine xc_seq ?_
    refine xc_region ?_
    refine xo_rd (rd_fieldAddr rfl) rfl ?_
    refine xo_rd (rd_load1 rfl (Cl.o1 rfl)) rfl ?_
    refine xo_rd (rd_fieldAddr rfl) rfl ?_
    refine xo_rd (rd_load1 rfl (Cl.o2 rfl)) rfl ?_
    refine xo_rd (rd_len rfl) rfl ?_
    refine xo_rd (rd_geq rfl rfl) rfl ?_
    refine xo_rd (rd_move rfl) rfl ?_
    refine xo_dec 153 rfl (fun hi2 => (by exfalso; omega)) (fun hi2 => ?_)
    refine xo_grd rfl rfl (rd_fieldAddr rfl) rfl ?_
    refine xo_grd rfl rfl (rd_load1 rfl (Cl.o1 rfl)) rfl ?_
    refine xo_grd rfl rfl (rd_lss rfl rfl) rfl ?_
    refine xo_rd (rd_pickf rfl rfl) rfl ?_
    refine xo_nil ?_
    refine xq_seq ?_
    refine xc_dec rfl (fun hi3 => (by exfalso; omega)) (fun hi3 => ?_)
    refine xc_skip ?_
    refine xq_seq ?_
    refine xc_seq ?_
    refine xc_region ?_
    refine xo_rd (rd_fieldAddr rfl) rfl ?_
    refine xo_rd (rd_load1 rfl (Cl.o2 rfl)) rfl ?_
    refine xo_rd (rd_len rfl) rfl ?_
    refine xo_rd (rd_eql rfl rfl) rfl ?_
    refine xo_rd (rd_move rfl) rfl ?_
    refine xo_dec 162 rfl (fun hi4 => ?_) (fun hi4 => ?_)
    refine xo_gskip rfl rfl rfl rfl ?_
    refine xo_gskip rfl rfl rfl rfl ?_
    refine xo_rd (rd_pickt rfl rfl) rfl ?_
    refine xo_rd (rd_move rfl) rfl ?_
    refine xo_gskip rfl rfl rfl rfl ?_
    refine xo_gskip rfl rfl rfl rfl ?_
    refine xo_gskip rfl rfl rfl rfl ?_
    refine xo_rd (rd_pickt rfl rfl) rfl ?_
    refine xo_rd (rd_move rfl) rfl ?_
    refine xo_gef rfl rfl rfl (ef_call rfl (XF.mono (xf_any (fun W => xf_works)) ?_))
    rintro v L' ⟨rfl, rfl⟩
    refine xo_rd (rd_pickt rfl rfl) rfl ?_
    refine xo_rd (rd_assign rfl) rfl ?_
    refine xo_nil ?_
    refine xq_seq ?_
    refine xc_ret ?_
    exact xq_ret1 (.inl rfl) Try.results4 rfl (rfl)
    refine xo_grd rfl rfl (rd_move rfl) rfl ?_
    refine xo_grd rfl rfl (rd_lss rfl rfl) rfl ?_
    refine xo_rd (rd_pickf rfl rfl) rfl ?_
    refine xo_rd (rd_move rfl) rfl ?_
    refine xo_dec 166 rfl (fun hi5 => ?_) (fun hi5 => ?_)
    refine xo_gskip rfl rfl rfl rfl ?_
    refine xo_gskip rfl rfl rfl rfl ?_
    refine xo_gskip rfl rfl rfl rfl ?_
    refine xo_rd (rd_pickt rfl rfl) rfl ?_
    refine xo_rd (rd_move rfl) rfl ?_
    refine xo_gef rfl rfl rfl (ef_call rfl (XF.mono (xf_any (fun W => xf_works)) ?_))
    rintro v L' ⟨rfl, rfl⟩
    refine xo_rd (rd_pickt rfl rfl) rfl ?_
    refine xo_rd (rd_assign rfl) rfl ?_
    refine xo_nil ?_
    refine xq_seq ?_
    refine xc_ret ?_
    exact xq_ret1 (.inl rfl) Try.results4 rfl (rfl)
    refine xo_grd rfl rfl (rd_fieldAddr rfl) rfl ?_
    refine xo_grd rfl rfl (rd_load1 rfl (Cl.o1 rfl)) rfl ?_
    refine xo_grd rfl rfl (rd_geq rfl rfl) rfl ?_
    refine xo_rd (rd_pickf rfl rfl) rfl ?_
    refine xo_rd (rd_move rfl) rfl ?_
    refine xo_dec 171 rfl (fun hi6 => ?_) (fun hi6 => (by exfalso; omega))
    refine xo_gef rfl rfl rfl (ef_call rfl (XF.mono (xf_any (fun W => xf_works)) ?_))
    rintro v L' ⟨rfl, rfl⟩
    refine xo_rd (rd_pickt rfl rfl) rfl ?_
    refine xo_rd (rd_assign rfl) rfl ?_
    refine xo_nil ?_
    refine xq_seq ?_
    refine xc_ret ?_
    exact xq_ret1 (.inl rfl) Try.results4 rfl (rfl)
  · obtain ⟨b3, rest3, cap3, hv3, _, hl3⟩ := hO3.cut (by omega)
    obtain ⟨b4, rest4, cap4, hv4, _, hl4⟩ := hO4.cut (by omega)
    simp only [Value.slice.injEq] at hv3 hv4
    obtain ⟨rfl, _, _⟩ := hv3
    obtain ⟨rfl, _, _⟩ := hv4
    clear hl3 hl4
    have hc3 := fun j h0 hj => fl_cell (W := W) (L := ((r9, .cells #[.int .i64 ca2, .slice (some ⟨b4, 0, none⟩) m k4] 36 (0, 0)) :: (r7, .cells #[.int .i64 ca, .slice (some ⟨b3, 0, none⟩) m k3] 36 (0, 0)) :: (r5, .cells #[.slice p n c, .slice q m d] 25 (0, 0)) :: (l3 ++ l4))) hO3 (by intro z hz; simp [hz]) j h0 hj
    have hc4 := fun j h0 hj => fl_cell (W := W) (L := ((r9, .cells #[.int .i64 ca2, .slice (some ⟨b4, 0, none⟩) m k4] 36 (0, 0)) :: (r7, .cells #[.int .i64 ca, .slice (some ⟨b3, 0, none⟩) m k3] 36 (0, 0)) :: (r5, .cells #[.slice p n c, .slice q m d] 25 (0, 0)) :: (l3 ++ l4))) hO4 (by intro z hz; simp [hz]) j h0 hj
    refine xc_seq (xc_block ?_)
    focus
      refine xc_seq ?_
      refine xc_region ?_
      refine xo_rd (rd_fieldAddr rfl) rfl ?_
      refine xo_rd (rd_load1 rfl (Cl.o1 rfl)) rfl ?_
      refine xo_rd (rd_move rfl) rfl ?_
      refine xo_rd (rd_indexAddr rfl rfl (by omega) (by omega)) rfl ?_
      refine xo_rd (rd_load1 rfl (hc3 _ (by omega) (by omega))) rfl ?_
      refine xo_rd (rd_move rfl) rfl ?_
      refine xo_dec 88 rfl (fun hj1 => ?_) (fun hj1 => ?_)
      refine xo_grd rfl rfl (rd_fieldAddr rfl) rfl ?_
      refine xo_grd rfl rfl (rd_load1 rfl (Cl.o0 rfl)) rfl ?_
      refine xo_grd rfl rfl (rd_move rfl) rfl ?_
      refine xo_grd rfl rfl (rd_indexAddr rfl rfl (by omega) (by omega)) rfl ?_
      refine xo_grd rfl rfl (rd_load1 rfl (hc4 _ (by omega) (by omega))) rfl ?_
      refine xo_grd rfl rfl (rd_not rfl) rfl ?_
      refine xo_rd (rd_pickt rfl rfl) rfl ?_
      refine xo_rd (rd_move rfl) rfl ?_
      refine xo_ndec 96 rfl (fun hj2 => (by exfalso; omega)) (fun hj2 => ?_)
      refine xo_grd rfl rfl (rd_fieldAddr rfl) rfl ?_
      refine xo_grd rfl rfl (rd_load1 rfl (Cl.o1 rfl)) rfl ?_
      refine xo_grd rfl rfl (rd_move rfl) rfl ?_
      refine xo_grd rfl rfl (rd_indexAddr rfl rfl (by omega) (by omega)) rfl ?_
      refine xo_grd rfl rfl (rd_load1 rfl (hc3 _ (by omega) (by omega))) rfl ?_
      refine xo_grd rfl rfl (rd_not rfl) rfl ?_
      refine xo_grd rfl rfl (rd_move rfl) rfl ?_
      refine xo_ndec 103 rfl (fun hj3 => (by exfalso; omega)) (fun hj3 => ?_)
      refine xo_gskip rfl rfl rfl rfl ?_
      refine xo_gskip rfl rfl rfl rfl ?_
      refine xo_gskip rfl rfl rfl rfl ?_
      refine xo_grd rfl rfl (rd_pickf rfl rfl) rfl ?_
      refine xo_rd (rd_pickf rfl rfl) rfl ?_
      refine xo_rd (rd_move rfl) rfl ?_
      refine xo_grd rfl rfl (rd_move rfl) rfl ?_
      refine xo_grd rfl rfl (rd_gtr rfl rfl) rfl ?_
      refine xo_grd rfl rfl (rd_move rfl) rfl ?_
      refine xo_dec 112 rfl (fun hj4 => ?_) (fun hj4 => ?_)
      refine xo_grd rfl rfl (rd_fieldAddr rfl) rfl ?_
      refine xo_grd rfl rfl (rd_load1 rfl (Cl.o1 rfl)) rfl ?_
      refine xo_grd rfl rfl (rd_move rfl) rfl ?_
      refine xo_grd rfl rfl (rd_indexAddr rfl rfl (by omega) (by omega)) rfl ?_
      refine xo_grd rfl rfl (rd_load1 rfl (hc3 _ (by omega) (by omega))) rfl ?_
      refine xo_grd rfl rfl (rd_pickt rfl rfl) rfl ?_
      refine xo_grd rfl rfl (rd_move rfl) rfl ?_
      refine xo_dec 119 rfl (fun hj5 => ?_) (fun hj5 => (by exfalso; omega))
      refine xo_grd rfl rfl (rd_fieldAddr rfl) rfl ?_
      refine xo_grd rfl rfl (rd_load1 rfl (Cl.o1 rfl)) rfl ?_
      refine xo_grd rfl rfl (rd_move rfl) rfl ?_
      refine xo_grd rfl rfl (rd_subn rfl rfl (by omega) (by omega)) rfl ?_
      refine xo_grd rfl rfl (rd_indexAddr rfl rfl (by omega) (by omega)) rfl ?_
      refine xo_grd rfl rfl (rd_load1 rfl (hc3 _ (by omega) (by omega))) rfl ?_
      refine xo_grd rfl rfl (rd_not rfl) rfl ?_
      refine xo_grd rfl rfl (rd_pickt rfl rfl) rfl ?_
      refine xo_rd (rd_pickf rfl rfl) rfl ?_
      refine xo_rd (rd_move rfl) rfl ?_
      refine xo_ndec 129 rfl (fun hj6 => (by exfalso; omega)) (fun hj6 => ?_)
      refine xo_grd rfl rfl (rd_fieldAddr rfl) rfl ?_
      refine xo_grd rfl rfl (rd_load1 rfl (Cl.o1 rfl)) rfl ?_
      refine xo_grd rfl rfl (rd_lss rfl rfl) rfl ?_
      refine xo_grd rfl rfl (rd_move rfl) rfl ?_
      refine xo_dec 133 rfl (fun hj7 => ?_) (fun hj7 => ?_)
      refine xo_grd rfl rfl (rd_fieldAddr rfl) rfl ?_
      refine xo_grd rfl rfl (rd_load1 rfl (Cl.o2 rfl)) rfl ?_
      refine xo_grd rfl rfl (rd_len rfl) rfl ?_
      refine xo_grd rfl rfl (rd_gtr rfl rfl) rfl ?_
      refine xo_grd rfl rfl (rd_pickt rfl rfl) rfl ?_
      refine xo_grd rfl rfl (rd_move rfl) rfl ?_
      refine xo_dec 139 rfl (fun hj8 => (by exfalso; omega)) (fun hj8 => ?_)
      refine xo_gskip rfl rfl rfl rfl ?_
      refine xo_gskip rfl rfl rfl rfl ?_
      refine xo_gskip rfl rfl rfl rfl ?_
      refine xo_gskip rfl rfl rfl rfl ?_
      refine xo_gskip rfl rfl rfl rfl ?_
      refine xo_grd rfl rfl (rd_pickf rfl rfl) rfl ?_
      refine xo_rd (rd_pickf rfl rfl) rfl ?_
      refine xo_nil ?_
      refine xq_seq ?_
      refine xc_condf rfl ?_
      refine xc_skip ?_
      refine xq_block ?_
      refine xq_seq ?_
      refine xc_region ?_
      refine xo_rd (rd_move rfl) rfl ?_
      refine xo_rd (rd_addn rfl rfl (by omega) (by omega)) rfl ?_
      refine xo_rd (rd_assign rfl) rfl ?_
      refine xo_nil ?_
      rotate_left
      refine xo_gskip rfl rfl rfl rfl ?_
      refine xo_gskip rfl rfl rfl rfl ?_
      refine xo_gskip rfl rfl rfl rfl ?_
      refine xo_gskip rfl rfl rfl rfl ?_
      refine xo_grd rfl rfl (rd_pickf rfl rfl) rfl ?_
      refine xo_grd rfl rfl (rd_move rfl) rfl ?_
      refine xo_gskip rfl rfl rfl rfl ?_
      refine xo_gskip rfl rfl rfl rfl ?_
      refine xo_gskip rfl rfl rfl rfl ?_
      refine xo_gskip rfl rfl rfl rfl ?_
      refine xo_gskip rfl rfl rfl rfl ?_
      refine xo_grd rfl rfl (rd_pickf rfl rfl) rfl ?_
      refine xo_rd (rd_pickf rfl rfl) rfl ?_
      refine xo_nil ?_
      refine xq_seq ?_
      refine xc_condf rfl ?_
      refine xc_skip ?_
      refine xq_block ?_
      refine xq_seq ?_
      refine xc_region ?_
      refine xo_rd (rd_move rfl) rfl ?_
      refine xo_rd (rd_addn rfl rfl (by omega) (by omega)) rfl ?_
      refine xo_rd (rd_assign rfl) rfl ?_
      refine xo_nil ?_
      rotate_left
      refine xo_gskip rfl rfl rfl rfl ?_
      refine xo_gskip rfl rfl rfl rfl ?_
      refine xo_gskip rfl rfl rfl rfl ?_
      refine xo_gskip rfl rfl rfl rfl ?_
      refine xo_gskip rfl rfl rfl rfl ?_
      refine xo_grd rfl rfl (rd_pickf rfl rfl) rfl ?_
      refine xo_grd rfl rfl (rd_move rfl) rfl ?_
      refine xo_gskip rfl rfl rfl rfl ?_
      refine xo_gskip rfl rfl rfl rfl ?_
      refine xo_gskip rfl rfl rfl rfl ?_
      refine xo_gskip rfl rfl rfl rfl ?_
      refine xo_gskip rfl rfl rfl rfl ?_
      refine xo_gskip rfl rfl rfl rfl ?_
      refine xo_gskip rfl rfl rfl rfl ?_
      refine xo_grd rfl rfl (rd_pickf rfl rfl) rfl ?_
      refine xo_rd (rd_pickf rfl rfl) rfl ?_
      refine xo_rd (rd_move rfl) rfl ?_
      refine xo_grd rfl rfl (rd_fieldAddr rfl) rfl ?_
      refine xo_grd rfl rfl (rd_load1 rfl (Cl.o1 rfl)) rfl ?_
      refine xo_grd rfl rfl (rd_lss rfl rfl) rfl ?_
      refine xo_grd rfl rfl (rd_move rfl) rfl ?_
      refine xo_dec 133 rfl (fun hj9 => ?_) (fun hj9 => ?_)
      refine xo_grd rfl rfl (rd_fieldAddr rfl) rfl ?_
      refine xo_grd rfl rfl (rd_load1 rfl (Cl.o2 rfl)) rfl ?_
      refine xo_grd rfl rfl (rd_len rfl) rfl ?_
      refine xo_grd rfl rfl (rd_gtr rfl rfl) rfl ?_
      refine xo_grd rfl rfl (rd_pickt rfl rfl) rfl ?_
      refine xo_grd rfl rfl (rd_move rfl) rfl ?_
      refine xo_dec 139 rfl (fun hj10 => (by exfalso; omega)) (fun hj10 => ?_)
      refine xo_gskip rfl rfl rfl rfl ?_
      refine xo_gskip rfl rfl rfl rfl ?_
      refine xo_gskip rfl rfl rfl rfl ?_
      refine xo_gskip rfl rfl rfl rfl ?_
      refine xo_gskip rfl rfl rfl rfl ?_
      refine xo_grd rfl rfl (rd_pickf rfl rfl) rfl ?_
      refine xo_rd (rd_pickf rfl rfl) rfl ?_
      refine xo_nil ?_
      refine xq_seq ?_
      refine xc_condf rfl ?_
      refine xc_skip ?_
      refine xq_block ?_
      refine xq_seq ?_
      refine xc_region ?_
      refine xo_rd (rd_move rfl) rfl ?_
      refine xo_rd (rd_addn rfl rfl (by omega) (by omega)) rfl ?_
      refine xo_rd (rd_assign rfl) rfl ?_
      refine xo_nil ?_
      rotate_left
      refine xo_gskip rfl rfl rfl rfl ?_
      refine xo_gskip rfl rfl rfl rfl ?_
      refine xo_gskip rfl rfl rfl rfl ?_
      refine xo_gskip rfl rfl rfl rfl ?_
      refine xo_grd rfl rfl (rd_pickf rfl rfl) rfl ?_
      refine xo_grd rfl rfl (rd_move rfl) rfl ?_
      refine xo_gskip rfl rfl rfl rfl ?_
      refine xo_gskip rfl rfl rfl rfl ?_
      refine xo_gskip rfl rfl rfl rfl ?_
      refine xo_gskip rfl rfl rfl rfl ?_
      refine xo_gskip rfl rfl rfl rfl ?_
      refine xo_grd rfl rfl (rd_pickf rfl rfl) rfl ?_
      refine xo_rd (rd_pickf rfl rfl) rfl ?_
      refine xo_nil ?_
      refine xq_seq ?_
      refine xc_condf rfl ?_
      refine xc_skip ?_
      refine xq_block ?_
      refine xq_seq ?_
      refine xc_region ?_
      refine xo_rd (rd_move rfl) rfl ?_
      refine xo_rd (rd_addn rfl rfl (by omega) (by omega)) rfl ?_
      refine xo_rd (rd_assign rfl) rfl ?_
      refine xo_nil ?_
      rotate_left
      refine xo_gskip rfl rfl rfl rfl ?_
      refine xo_gskip rfl rfl rfl rfl ?_
      refine xo_gskip rfl rfl rfl rfl ?_
      refine xo_gskip rfl rfl rfl rfl ?_
      refine xo_gskip rfl rfl rfl rfl ?_
      refine xo_gskip rfl rfl rfl rfl ?_
      refine xo_rd (rd_pickf rfl rfl) rfl ?_
      refine xo_rd (rd_move rfl) rfl ?_
      refine xo_grd rfl rfl (rd_fieldAddr rfl) rfl ?_
      refine xo_grd rfl rfl (rd_load1 rfl (Cl.o1 rfl)) rfl ?_
      refine xo_grd rfl rfl (rd_move rfl) rfl ?_
      refine xo_grd rfl rfl (rd_indexAddr rfl rfl (by omega) (by omega)) rfl ?_
      refine xo_grd rfl rfl (rd_load1 rfl (hc3 _ (by omega) (by omega))) rfl ?_
      refine xo_grd rfl rfl (rd_not rfl) rfl ?_
      refine xo_grd rfl rfl (rd_move rfl) rfl ?_
      refine xo_ndec 103 rfl (fun hj11 => ?_) (fun hj11 => (by exfalso; omega))
      refine xo_grd rfl rfl (rd_fieldAddr rfl) rfl ?_
      refine xo_grd rfl rfl (rd_load1 rfl (Cl.o1 rfl)) rfl ?_
      refine xo_grd rfl rfl (rd_gtr rfl rfl) rfl ?_
      refine xo_grd rfl rfl (rd_pickt rfl rfl) rfl ?_
      refine xo_rd (rd_pickf rfl rfl) rfl ?_
      refine xo_rd (rd_move rfl) rfl ?_
      refine xo_dec 109 rfl (fun hj12 => (by exfalso; omega)) (fun hj12 => ?_)
      refine xo_grd rfl rfl (rd_move rfl) rfl ?_
      refine xo_grd rfl rfl (rd_gtr rfl rfl) rfl ?_
      refine xo_grd rfl rfl (rd_move rfl) rfl ?_
      refine xo_dec 112 rfl (fun hj13 => ?_) (fun hj13 => ?_)
      refine xo_grd rfl rfl (rd_fieldAddr rfl) rfl ?_
      refine xo_grd rfl rfl (rd_load1 rfl (Cl.o1 rfl)) rfl ?_
      refine xo_grd rfl rfl (rd_move rfl) rfl ?_
      refine xo_grd rfl rfl (rd_indexAddr rfl rfl (by omega) (by omega)) rfl ?_
      refine xo_grd rfl rfl (rd_load1 rfl (hc3 _ (by omega) (by omega))) rfl ?_
      refine xo_grd rfl rfl (rd_pickt rfl rfl) rfl ?_
      refine xo_grd rfl rfl (rd_move rfl) rfl ?_
      refine xo_dec 119 rfl (fun hj14 => (by exfalso; omega)) (fun hj14 => ?_)
      refine xo_gskip rfl rfl rfl rfl ?_
      refine xo_gskip rfl rfl rfl rfl ?_
      refine xo_gskip rfl rfl rfl rfl ?_
      refine xo_gskip rfl rfl rfl rfl ?_
      refine xo_gskip rfl rfl rfl rfl ?_
      refine xo_gskip rfl rfl rfl rfl ?_
      refine xo_gskip rfl rfl rfl rfl ?_
      refine xo_grd rfl rfl (rd_pickf rfl rfl) rfl ?_
      refine xo_rd (rd_pickf rfl rfl) rfl ?_
      refine xo_rd (rd_move rfl) rfl ?_
      refine xo_grd rfl rfl (rd_fieldAddr rfl) rfl ?_
      refine xo_grd rfl rfl (rd_load1 rfl (Cl.o1 rfl)) rfl ?_
      refine xo_grd rfl rfl (rd_lss rfl rfl) rfl ?_
      refine xo_grd rfl rfl (rd_move rfl) rfl ?_
      refine xo_dec 133 rfl (fun hj15 => ?_) (fun hj15 => ?_)
      refine xo_grd rfl rfl (rd_fieldAddr rfl) rfl ?_
      refine xo_grd rfl rfl (rd_load1 rfl (Cl.o2 rfl)) rfl ?_
      refine xo_grd rfl rfl (rd_len rfl) rfl ?_
      refine xo_grd rfl rfl (rd_gtr rfl rfl) rfl ?_
      refine xo_grd rfl rfl (rd_pickt rfl rfl) rfl ?_
      refine xo_grd rfl rfl (rd_move rfl) rfl ?_
      refine xo_dec 139 rfl (fun hj16 => ?_) (fun hj16 => ?_)
      refine xo_grd rfl rfl (rd_fieldAddr rfl) rfl ?_
      refine xo_grd rfl rfl (rd_load1 rfl (Cl.o1 rfl)) rfl ?_
      refine xo_grd rfl rfl (rd_move rfl) rfl ?_
      refine xo_grd rfl rfl (rd_indexAddr rfl rfl (by omega) (by omega)) rfl ?_
      refine xo_grd rfl rfl (rd_load1 rfl (hc3 _ (by omega) (by omega))) rfl ?_
      refine xo_grd rfl rfl (rd_pickt rfl rfl) rfl ?_
      refine xo_rd (rd_pickf rfl rfl) rfl ?_
      refine xo_nil ?_
      refine xq_seq ?_
      refine xc_dec rfl (fun hj17 => (by exfalso; omega)) (fun hj17 => ?_)
      refine xc_skip ?_
      refine xq_block ?_
      refine xq_seq ?_
      refine xc_region ?_
      refine xo_rd (rd_move rfl) rfl ?_
      refine xo_rd (rd_addn rfl rfl (by omega) (by omega)) rfl ?_
      refine xo_rd (rd_assign rfl) rfl ?_
      refine xo_nil ?_
      rotate_left
      refine xo_gskip rfl rfl rfl rfl ?_
      refine xo_gskip rfl rfl rfl rfl ?_
      refine xo_gskip rfl rfl rfl rfl ?_
      refine xo_gskip rfl rfl rfl rfl ?_
      refine xo_gskip rfl rfl rfl rfl ?_
      refine xo_grd rfl rfl (rd_pickf rfl rfl) rfl ?_
      refine xo_rd (rd_pickf rfl rfl) rfl ?_
      refine xo_nil ?_
      refine xq_seq ?_
      refine xc_condf rfl ?_
      refine xc_skip ?_
      refine xq_block ?_
      refine xq_seq ?_
      refine xc_region ?_
      refine xo_rd (rd_move rfl) rfl ?_
      refine xo_rd (rd_addn rfl rfl (by omega) (by omega)) rfl ?_
      refine xo_rd (rd_assign rfl) rfl ?_
      refine xo_nil ?_
      rotate_left
      refine xo_gskip rfl rfl rfl rfl ?_
      refine xo_gskip rfl rfl rfl rfl ?_
      refine xo_gskip rfl rfl rfl rfl ?_
      refine xo_gskip rfl rfl rfl rfl ?_
      refine xo_grd rfl rfl (rd_pickf rfl rfl) rfl ?_
      refine xo_grd rfl rfl (rd_move rfl) rfl ?_
      refine xo_gskip rfl rfl rfl rfl ?_
      refine xo_gskip rfl rfl rfl rfl ?_
      refine xo_gskip rfl rfl rfl rfl ?_
      refine xo_gskip rfl rfl rfl rfl ?_
      refine xo_gskip rfl rfl rfl rfl ?_
      refine xo_grd rfl rfl (rd_pickf rfl rfl) rfl ?_
      refine xo_rd (rd_pickf rfl rfl) rfl ?_
      refine xo_nil ?_
      refine xq_seq ?_
      refine xc_condf rfl ?_
      refine xc_skip ?_
      refine xq_block ?_
      refine xq_seq ?_
      refine xc_region ?_
      refine xo_rd (rd_move rfl) rfl ?_
      refine xo_rd (rd_addn rfl rfl (by omega) (by omega)) rfl ?_
      refine xo_rd (rd_assign rfl) rfl ?_
      refine xo_nil ?_
      rotate_left
      refine xo_gskip rfl rfl rfl rfl ?_
      refine xo_gskip rfl rfl rfl rfl ?_
      refine xo_gskip rfl rfl rfl rfl ?_
      refine xo_gskip rfl rfl rfl rfl ?_
      refine xo_gskip rfl rfl rfl rfl ?_
      refine xo_grd rfl rfl (rd_pickf rfl rfl) rfl ?_
      refine xo_grd rfl rfl (rd_move rfl) rfl ?_
      refine xo_gskip rfl rfl rfl rfl ?_
      refine xo_gskip rfl rfl rfl rfl ?_
      refine xo_gskip rfl rfl rfl rfl ?_
      refine xo_gskip rfl rfl rfl rfl ?_
      refine xo_gskip rfl rfl rfl rfl ?_
      refine xo_gskip rfl rfl rfl rfl ?_
      refine xo_gskip rfl rfl rfl rfl ?_
      refine xo_grd rfl rfl (rd_pickf rfl rfl) rfl ?_
      refine xo_rd (rd_pickf rfl rfl) rfl ?_
      refine xo_rd (rd_move rfl) rfl ?_
      refine xo_grd rfl rfl (rd_fieldAddr rfl) rfl ?_
      refine xo_grd rfl rfl (rd_load1 rfl (Cl.o1 rfl)) rfl ?_
      refine xo_grd rfl rfl (rd_lss rfl rfl) rfl ?_
      refine xo_grd rfl rfl (rd_move rfl) rfl ?_
      refine xo_dec 133 rfl (fun hj18 => ?_) (fun hj18 => ?_)
      refine xo_grd rfl rfl (rd_fieldAddr rfl) rfl ?_
      refine xo_grd rfl rfl (rd_load1 rfl (Cl.o2 rfl)) rfl ?_
      refine xo_grd rfl rfl (rd_len rfl) rfl ?_
      refine xo_grd rfl rfl (rd_gtr rfl rfl) rfl ?_
      refine xo_grd rfl rfl (rd_pickt rfl rfl) rfl ?_
      refine xo_grd rfl rfl (rd_move rfl) rfl ?_
      refine xo_dec 139 rfl (fun hj19 => ?_) (fun hj19 => ?_)
      refine xo_grd rfl rfl (rd_fieldAddr rfl) rfl ?_
      refine xo_grd rfl rfl (rd_load1 rfl (Cl.o1 rfl)) rfl ?_
      refine xo_grd rfl rfl (rd_move rfl) rfl ?_
      refine xo_grd rfl rfl (rd_indexAddr rfl rfl (by omega) (by omega)) rfl ?_
      refine xo_grd rfl rfl (rd_load1 rfl (hc3 _ (by omega) (by omega))) rfl ?_
      refine xo_grd rfl rfl (rd_pickt rfl rfl) rfl ?_
      refine xo_rd (rd_pickf rfl rfl) rfl ?_
      refine xo_nil ?_
      refine xq_seq ?_
      refine xc_dec rfl (fun hj20 => (by exfalso; omega)) (fun hj20 => ?_)
      refine xc_skip ?_
      refine xq_block ?_
      refine xq_seq ?_
      refine xc_region ?_
      refine xo_rd (rd_move rfl) rfl ?_
      refine xo_rd (rd_addn rfl rfl (by omega) (by omega)) rfl ?_
      refine xo_rd (rd_assign rfl) rfl ?_
      refine xo_nil ?_
      rotate_left
      refine xo_gskip rfl rfl rfl rfl ?_
      refine xo_gskip rfl rfl rfl rfl ?_
      refine xo_gskip rfl rfl rfl rfl ?_
      refine xo_gskip rfl rfl rfl rfl ?_
      refine xo_gskip rfl rfl rfl rfl ?_
      refine xo_grd rfl rfl (rd_pickf rfl rfl) rfl ?_
      refine xo_rd (rd_pickf rfl rfl) rfl ?_
      refine xo_nil ?_
      refine xq_seq ?_
      refine xc_condf rfl ?_
      refine xc_skip ?_
      refine xq_block ?_
      refine xq_seq ?_
      refine xc_region ?_
      refine xo_rd (rd_move rfl) rfl ?_
      refine xo_rd (rd_addn rfl rfl (by omega) (by omega)) rfl ?_
      refine xo_rd (rd_assign rfl) rfl ?_
      refine xo_nil ?_
      rotate_left
      refine xo_gskip rfl rfl rfl rfl ?_
      refine xo_gskip rfl rfl rfl rfl ?_
      refine xo_gskip rfl rfl rfl rfl ?_
      refine xo_gskip rfl rfl rfl rfl ?_
      refine xo_grd rfl rfl (rd_pickf rfl rfl) rfl ?_
      refine xo_grd rfl rfl (rd_move rfl) rfl ?_
      refine xo_gskip rfl rfl rfl rfl ?_
      refine xo_gskip rfl rfl rfl rfl ?_
      refine xo_gskip rfl rfl rfl rfl ?_
      refine xo_gskip rfl rfl rfl rfl ?_
      refine xo_gskip rfl rfl rfl rfl ?_
      refine xo_grd rfl rfl (rd_pickf rfl rfl) rfl ?_
      refine xo_rd (rd_pickf rfl rfl) rfl ?_
      refine xo_nil ?_
      refine xq_seq ?_
      refine xc_condf rfl ?_
      refine xc_skip ?_
      refine xq_block ?_
      refine xq_seq ?_
      refine xc_region ?_
      refine xo_rd (rd_move rfl) rfl ?_
      refine xo_rd (rd_addn rfl rfl (by omega) (by omega)) rfl ?_
      refine xo_rd (rd_assign rfl) rfl ?_
      refine xo_nil ?_
      rotate_left
    all_goals exact xq_roundI (i + 1) (by omega) (by omega) rfl (by repeat (first | exact keep_nil | refine keep_cons rfl ?_))
theorem fair (W : World) (a0 a1 : Int) (a2 : Costs) (g0 : InK .u64 a0) (g1 : InK .u64 a1) (g2 : a2.Good W) : XF Try.prog W 4 #[.int .u64 a0, .int .u64 a1, .agg a2.enc.toArray] [] (fun v L' => v = .bool true) :=
  xf_BudgetFair a0 a1 a2.f0.p a2.f1.p a2.f0.n a2.f0.c a2.f1.n a2.f1.c a2.f0.l a2.f1.l g2.1.len g2.2.len (Costs.rs g2).1 (Costs.rs g2).2 g2.1.all g2.2.all (Nat.le_trans g2.1.cap g2.1.max) (Nat.le_trans g2.2.cap g2.2.max) g0 g1
end Go.Proofs.Ytnghandgghfloaa.X
