/-
  Texts of my own, put together: walks and laws for this seat. No condition.
-/
import Derived.Test.YtpheiklhjelkcaaZ4
import Derived.Test.YtpheiklhjelkcaaZ6
import Derived.Test.YtpheiklhjelkcaaZ10
import Derived.Test.YtpheiklhjelkcaaZ5
import Derived.Test.YtpheiklhjelkcaaZ7
import Derived.Test.YtpheiklhjelkcaaZ8
/-
  Chapter 19: frames, compared as the program does: walks of my own.
-/
namespace Go.Proofs.Ytpheiklhjelkcaa.X
open Go Go.RowKit
set_option linter.unusedVariables false
set_option linter.unusedSimpArgs false
theorem Pa.eq_iff (x y : Pa) : x = y ↔ x.d = y.d ∧ x.r = y.r := by
  obtain ⟨⟩ := x; obtain ⟨⟩ := y
  simp only [Pa.mk.injEq]
theorem Fa.eq_iff (x y : Fa) : x = y ↔ x.i = y.i ∧ x.k = y.k ∧ x.ps = y.ps := by
  obtain ⟨⟩ := x; obtain ⟨⟩ := y
  simp only [Fa.mk.injEq]
set_option maxHeartbeats 1600000 in
theorem xf_samePt {W : World} {L : List Blk} (x y : Pt) (hx : Rs W L x.p (ints .u8 x.a.r)) (hy : Rs W L y.p (ints .u8 y.a.r)) (hl : x.a.r.length ≤ 1000) (r : Bool) (hres : decide (x.a = y.a) = r) : XF Try.prog W 60 #[.agg x.enc.toArray, .agg y.enc.toArray] L (fun v L' => v = .bool r ∧ L' = L) := by
  subst hres
  refine xf_enter (args := [_, _]) Try.func60 rfl Try.ntmps60 rfl ?_
  obtain ⟨sd, hsd⟩ : ∃ r, decide (x.a.d = y.a.d) = r := ⟨_, rfl⟩
  focus
    refine xc_seq ?_
    refine xc_region ?_
    refine xo_ef rfl (ef_box rfl fun r2 => ?_)
    refine xo_ef rfl (ef_box rfl fun r3 => ?_)
    refine xo_rd (rd_assign rfl) rfl ?_
    refine xo_nil ?_
    refine xq_seq ?_
    refine xc_seq ?_
    refine xc_region ?_
    refine xo_rd (rd_fieldAddr rfl) rfl ?_
    refine xo_rd (rd_loadA (vs := x.a.d.enc) rfl rfl (cl_sub (b := r2) (vs := x.enc) (T := 116) (fr := (0, 0)) 0 (by first | exact List.Mem.head _ | exact List.Mem.tail _ (List.Mem.head _) | exact List.Mem.tail _ (List.Mem.tail _ (List.Mem.head _)) | exact List.Mem.tail _ (List.Mem.tail _ (List.Mem.tail _ (List.Mem.head _))) | exact List.Mem.tail _ (List.Mem.tail _ (List.Mem.tail _ (List.Mem.tail _ (List.Mem.head _)))) | exact List.Mem.tail _ (List.Mem.tail _ (List.Mem.tail _ (List.Mem.tail _ (List.Mem.tail _ (List.Mem.head _))))) | exact List.Mem.tail _ (List.Mem.tail _ (List.Mem.tail _ (List.Mem.tail _ (List.Mem.tail _ (List.Mem.tail _ (List.Mem.head _)))))) | exact List.Mem.tail _ (List.Mem.tail _ (List.Mem.tail _ (List.Mem.tail _ (List.Mem.tail _ (List.Mem.tail _ (List.Mem.tail _ (List.Mem.head _)))))))) rfl)) rfl ?_
    refine xo_rd (rd_fieldAddr rfl) rfl ?_
    refine xo_rd (rd_loadA (vs := y.a.d.enc) rfl rfl (cl_sub (b := r3) (vs := y.enc) (T := 116) (fr := (0, 0)) 0 (by first | exact List.Mem.head _ | exact List.Mem.tail _ (List.Mem.head _) | exact List.Mem.tail _ (List.Mem.tail _ (List.Mem.head _)) | exact List.Mem.tail _ (List.Mem.tail _ (List.Mem.tail _ (List.Mem.head _))) | exact List.Mem.tail _ (List.Mem.tail _ (List.Mem.tail _ (List.Mem.tail _ (List.Mem.head _)))) | exact List.Mem.tail _ (List.Mem.tail _ (List.Mem.tail _ (List.Mem.tail _ (List.Mem.tail _ (List.Mem.head _))))) | exact List.Mem.tail _ (List.Mem.tail _ (List.Mem.tail _ (List.Mem.tail _ (List.Mem.tail _ (List.Mem.tail _ (List.Mem.head _)))))) | exact List.Mem.tail _ (List.Mem.tail _ (List.Mem.tail _ (List.Mem.tail _ (List.Mem.tail _ (List.Mem.tail _ (List.Mem.tail _ (List.Mem.head _)))))))) rfl)) rfl ?_
    refine xo_rd (rd_cast (v' := .bool sd) (rd_eqS (eqs114 x.a.d y.a.d) rfl rfl) (by rw [hsd])) rfl ?_
    refine xo_rd (rd_move rfl) rfl ?_
    refine xo_split 10 rfl (fun hz1 => ?_) (fun hz1 => ?_)
    refine xo_grd rfl rfl (rd_fieldAddr rfl) rfl ?_
    refine xo_grd rfl rfl (rd_load1 rfl (Cl.o1 rfl)) rfl ?_
    refine xo_grd rfl rfl (rd_fieldAddr rfl) rfl ?_
    refine xo_grd rfl rfl (rd_load1 rfl (Cl.o0 rfl)) rfl ?_
    refine xo_gef rfl rfl rfl (ef_call rfl (XF.mono (xf_equal x.p y.p x.a.r.length y.a.r.length x.c y.c x.a.r y.a.r rfl rfl (hx.mono (by intro z hz; simp [hz])) (hy.mono (by intro z hz; simp [hz])) (by omega)) ?_))
    rintro v L' ⟨rfl, rfl⟩
    refine xo_rd (rd_pickt rfl rfl) rfl ?_
    refine xo_rd (rd_assign rfl) rfl ?_
    refine xo_nil ?_
    refine xq_seq ?_
    refine xc_ret ?_
    rotate_left
    refine xo_gskip rfl rfl rfl rfl ?_
    refine xo_gskip rfl rfl rfl rfl ?_
    refine xo_gskip rfl rfl rfl rfl ?_
    refine xo_gskip rfl rfl rfl rfl ?_
    refine xo_gskip rfl rfl rfl rfl ?_
    refine xo_rd (rd_pickf rfl rfl) rfl ?_
    refine xo_rd (rd_assign rfl) rfl ?_
    refine xo_nil ?_
    refine xq_seq ?_
    refine xc_ret ?_
    rotate_left
  · rw [hz1, decide_eq_true_iff] at hsd
    exact xq_sub (List.sublist_append_right [_, _] _) (xq_ret1 (.inl rfl) Try.results60 rfl ⟨congrArg Value.bool (decide_eq_decide.2 ⟨fun e => (Pa.eq_iff _ _).2 ⟨hsd, e⟩, fun e => congrArg Pa.r e⟩), rfl⟩)
  · rw [hz1, decide_eq_false_iff_not] at hsd
    exact xq_sub (List.sublist_append_right [_, _] _) (xq_ret1 (.inl rfl) Try.results60 rfl ⟨congrArg Value.bool (decide_eq_false fun e => hsd (congrArg Pa.d e)).symm, rfl⟩)
set_option maxHeartbeats 1600000 in
theorem xf_equalPts {W : World} {L : List Blk} (p q : Option Addr) (m m' c c' : Nat) (xs ys : List Pt) (hxn : xs.length = m) (hyn : ys.length = m') (hr : Rs W L p (xs.flatMap Pt.enc)) (hs : Rs W L q (ys.flatMap Pt.enc)) (hrt : ∀ y, y ∈ xs → Rs W L y.p (ints .u8 y.a.r)) (hrt' : ∀ y, y ∈ ys → Rs W L y.p (ints .u8 y.a.r)) (hm : m ≤ 1000) (hf : ∀ y, y ∈ xs → y.a.r.length ≤ 1000) (r : Bool) (hres : decide (xs.map Pt.a = ys.map Pt.a) = r) :
    XF Try.prog W 59 #[.slice p m c, .slice q m' c', .func (.func 60) #[] #[]] L (fun v L' => v = .bool r ∧ L' = L) := by
  subst hres
  refine xf_enter (args := [_, _, _]) Try.func59 rfl Try.ntmps59 rfl ?_
  by_cases hmm : m = m'
  case neg =>
    focus
      refine xc_seq ?_
      refine xc_region ?_
      refine xo_rd (rd_assign rfl) rfl ?_
      refine xo_nil ?_
      refine xq_seq ?_
      refine xc_seq ?_
      refine xc_seq ?_
      refine xc_region ?_
      refine xo_rd (rd_move rfl) rfl ?_
      refine xo_rd (rd_len rfl) rfl ?_
      refine xo_rd (rd_move rfl) rfl ?_
      refine xo_rd (rd_len rfl) rfl ?_
      refine xo_rd (rd_neq rfl rfl) rfl ?_
      refine xo_nil ?_
      refine xq_seq ?_
      refine xc_ndec rfl (fun h1 => ?_) (fun h1 => (by exfalso; omega))
      refine xc_seq ?_
      refine xc_region ?_
      refine xo_rd (rd_assign rfl) rfl ?_
      refine xo_nil ?_
      refine xq_seq ?_
      refine xc_ret ?_
      refine xq_then_ret ?_
    refine xq_ret1 (.inl rfl) Try.results59 rfl ⟨congrArg Value.bool (decide_eq_false fun e => ?_).symm, rfl⟩
    have := congrArg List.length e
    simp only [List.length_map] at this
    omega
  subst hmm
  focus
    refine xc_seq ?_
    refine xc_region ?_
    refine xo_rd (rd_assign rfl) rfl ?_
    refine xo_nil ?_
    refine xq_seq ?_
    refine xc_seq ?_
    refine xc_seq ?_
    refine xc_region ?_
    refine xo_rd (rd_move rfl) rfl ?_
    refine xo_rd (rd_len rfl) rfl ?_
    refine xo_rd (rd_move rfl) rfl ?_
    refine xo_rd (rd_len rfl) rfl ?_
    refine xo_rd (rd_neq rfl rfl) rfl ?_
    refine xo_nil ?_
    refine xq_seq ?_
    refine xc_ndec rfl (fun h => absurd rfl h) (fun _ => ?_)
    refine xc_skip ?_
    refine xq_seq ?_
    refine xc_seq ?_
    refine xc_seq ?_
    refine xc_region ?_
    refine xo_rd (rd_move rfl) rfl ?_
    refine xo_rd (rd_len rfl) rfl ?_
    refine xo_rd (rd_move rfl) rfl ?_
    refine xo_nil ?_
    refine xq_seq ?_
    refine xc_block ?_
  refine xc_loopK (ι := Nat) (fun i => i ≤ m ∧ (xs.map Pt.a).take i = (ys.map Pt.a).take i) (fun i => m - i) (fun i => [(0, .slice p m c), (1, .slice q m c'), (2, .func (.func 60) #[] #[]), (15, .slice p m c), (16, .int .i64 m), (17, .int .i64 i)]) 0 ⟨Nat.zero_le _, by simp⟩ (by repeat (first | exact keep_nil | refine keep_cons rfl ?_)) ?_
  rintro i ⟨hi, he⟩
  by_cases hin : i < m
  · obtain ⟨b, o, hp, hc1⟩ := hr.rows Pt.len (by decide) (by omega)
    obtain ⟨b', o', hp', hc2⟩ := hs.rows Pt.len (by decide) (by omega)
    subst hp hp'
    have hci := hc1 i (by omega)
    have hcj := hc2 i (by omega)
    have e1 : xs[i]? = some xs[i] := List.getElem?_eq_getElem (by omega)
    have e2 : ys[i]? = some ys[i] := List.getElem?_eq_getElem (by omega)
    have k1 := hrt xs[i] (List.getElem_mem _)
    have k2 := hrt' ys[i] (List.getElem_mem _)
    have k5 := hf xs[i] (List.getElem_mem _)
    generalize xs[i] = u at *
    generalize ys[i] = w at *
    obtain ⟨sd, hsd⟩ : ∃ r, decide (u.a = w.a) = r := ⟨_, rfl⟩
    have hcI : ∀ L', (∀ z, z ∈ L → z ∈ L') → ∀ (j : Nat) (v : Value), u.enc[j]? = some v → Cl W L' b (o + (i : Int).toNat * 14 + j) v := fun L' h j v hj => (hci j v hj).mono h
    have hcJ : ∀ L', (∀ z, z ∈ L → z ∈ L') → ∀ (j : Nat) (v : Value), w.enc[j]? = some v → Cl W L' b' (o' + (i : Int).toNat * 14 + j) v := fun L' h j v hj => (hcj j v hj).mono h
    focus
      refine xc_seq ?_
      refine xc_region ?_
      refine xo_rd (rd_lss rfl rfl) rfl ?_
      refine xo_nil ?_
      refine xq_seq ?_
      refine xc_seq ?_
      refine xc_dec rfl (fun hz1 => ?_) (fun hz1 => (by exfalso; omega))
      refine xc_skip ?_
      refine xq_seq ?_
      refine xc_seq ?_
      refine xc_block ?_
      refine xc_seq ?_
      refine xc_region ?_
      refine xo_rd (rd_move rfl) rfl ?_
      refine xo_rd (rd_indexAddr rfl rfl (by omega) (by omega)) rfl ?_
      refine xo_rd (rd_loadA (vs := u.enc) rfl rfl (hcI _ (by intro z hz; simp [hz]))) rfl ?_
      refine xo_ef rfl (ef_alloc fun r8 => ?_)
      refine xo_rd (rd_assign rfl) rfl ?_
      refine xo_ef rfl (ef_storeB [] _ rfl rfl (by first | rfl | assumption) rfl rfl rfl ?_)
      refine xo_nil ?_
      refine xq_seq ?_
      refine xc_seq ?_
      refine xc_region ?_
      refine xo_rd (rd_move rfl) rfl ?_
      refine xo_rd (rd_move rfl) rfl ?_
      refine xo_rd (rd_indexAddr rfl rfl (by omega) (by omega)) rfl ?_
      refine xo_rd (rd_loadA (vs := w.enc) rfl rfl (hcJ _ (by intro z hz; simp [hz]))) rfl ?_
      refine xo_ef rfl (ef_alloc fun r9 => ?_)
      refine xo_ef rfl (ef_storeB [] _ rfl rfl (by first | rfl | assumption) rfl rfl rfl ?_)
      refine xo_nil ?_
      refine xq_seq ?_
      refine xc_seq ?_
      refine xc_region ?_
      refine xo_rd (rd_move rfl) rfl ?_
      refine xo_rd (rd_loadB rfl Kn.o1 (by rfl)) rfl ?_
      refine xo_rd (rd_loadB rfl Kn.o0 (by rfl)) rfl ?_
      refine xo_ef rfl (ef_callv0 (r := .bool sd) (vs := [.agg u.enc.toArray, .agg w.enc.toArray]) (first := []) (cap := []) rfl rfl (xf_samePt u w (k1.mono (by intro z hz; simp [hz])) (k2.mono (by intro z hz; simp [hz])) k5 sd hsd) ?_)
      refine xo_rd (rd_not rfl) rfl ?_
      refine xo_nil ?_
      refine xq_seq ?_
      refine xc_cond rfl (fun hz2 => ?_) (fun hz2 => ?_)
      refine xc_seq ?_
      refine xc_region ?_
      refine xo_rd (rd_assign rfl) rfl ?_
      refine xo_nil ?_
      refine xq_seq ?_
      refine xc_ret ?_
      refine xq_block_ret ?_
      refine xq_then_ret ?_
      refine xq_then_ret ?_
      refine xq_block_ret ?_
      refine xq_then_ret ?_
      rotate_left
      refine xc_skip ?_
      refine xq_block ?_
      refine xq_seq ?_
      refine xc_region ?_
      refine xo_rd (rd_addn rfl rfl (by omega) (by omega)) rfl ?_
      refine xo_rd (rd_move rfl) rfl ?_
      refine xo_nil ?_
      rotate_left
    · refine xq_sub (List.sublist_append_right [_, _] _) (xq_ret1 (.inl rfl) Try.results59 rfl ⟨congrArg Value.bool (decide_eq_false fun e => ?_).symm, rfl⟩)
      have hs0 : sd = false := by simpa using hz2
      rw [hs0] at hsd
      refine of_decide_eq_false hsd ?_
      have := congrArg (fun l : List Pa => l[i]?) e
      simp only [List.getElem?_map, e1, e2, Option.map_some, Option.some.injEq] at this
      exact this
    · have hs0 : sd = true := by simpa using hz2
      rw [hs0] at hsd
      refine xq_roundK rfl (i + 1) ⟨by omega, ?_⟩ (by omega) (List.sublist_append_right [_, _] _) (by repeat (first | exact keep_nil | refine keep_cons rfl ?_))
      rw [List.take_add_one, List.take_add_one, he, List.getElem?_map, List.getElem?_map, e1, e2, Option.map_some, Option.map_some, of_decide_eq_true hsd]
  · skip
    focus
      refine xc_seq ?_
      refine xc_region ?_
      refine xo_rd (rd_lss rfl rfl) rfl ?_
      refine xo_nil ?_
      refine xq_seq ?_
      refine xc_seq ?_
      refine xc_dec rfl (fun h1 => (by exfalso; omega)) (fun h1 => ?_)
      refine xc_exit ?_
      refine xq_then_exit ?_
      refine xq_then_exit ?_
      refine xq_block_hit ?_
      refine xq_seq ?_
      refine xc_seq ?_
      refine xc_region ?_
      refine xo_rd (rd_assign rfl) rfl ?_
      refine xo_nil ?_
      refine xq_seq ?_
      refine xc_ret ?_
    have hin' : i = m := by omega
    subst hin'
    rw [List.take_of_length_le (by simp; omega), List.take_of_length_le (by simp; omega)] at he
    exact xq_ret1 (.inl rfl) Try.results59 rfl ⟨congrArg Value.bool (decide_eq_true he).symm, rfl⟩
set_option maxHeartbeats 1600000 in
theorem xf_FSame {W : World} {L : List Blk} (x y : Fr) (hx : x.At W L) (hy : y.At W L) (hf : x.Few) (r : Bool) (hres : decide (x.a = y.a) = r) : XF Try.prog W 34 #[.agg x.enc.toArray, .agg y.enc.toArray] L (fun v L' => v = .bool r ∧ L' = L) := by
  subst hres
  obtain ⟨hrs, hrt⟩ := hx
  obtain ⟨hrs', hrt'⟩ := hy
  obtain ⟨hn, hfr⟩ := hf
  rw [Fr.encE, Fr.encE]
  refine xf_enter (args := [_, _]) Try.func34 rfl Try.ntmps34 rfl ?_
  obtain ⟨si, hsi⟩ : ∃ r, decide (x.i = y.i) = r := ⟨_, rfl⟩
  focus
    refine xc_seq ?_
    refine xc_region ?_
    refine xo_ef rfl (ef_box rfl fun r2 => ?_)
    refine xo_ef rfl (ef_box rfl fun r3 => ?_)
    refine xo_rd (rd_assign rfl) rfl ?_
    refine xo_nil ?_
    refine xq_seq ?_
    refine xc_seq ?_
    refine xc_region ?_
    refine xo_rd (rd_fieldAddr rfl) rfl ?_
    refine xo_rd (rd_loadA (vs := x.i.enc) rfl rfl (cl_sub (b := r2) (vs := frE x.i x.k x.p x.ps.length x.c) (T := 41) (fr := (0, 0)) 0 (by first | exact List.Mem.head _ | exact List.Mem.tail _ (List.Mem.head _) | exact List.Mem.tail _ (List.Mem.tail _ (List.Mem.head _)) | exact List.Mem.tail _ (List.Mem.tail _ (List.Mem.tail _ (List.Mem.head _))) | exact List.Mem.tail _ (List.Mem.tail _ (List.Mem.tail _ (List.Mem.tail _ (List.Mem.head _)))) | exact List.Mem.tail _ (List.Mem.tail _ (List.Mem.tail _ (List.Mem.tail _ (List.Mem.tail _ (List.Mem.head _))))) | exact List.Mem.tail _ (List.Mem.tail _ (List.Mem.tail _ (List.Mem.tail _ (List.Mem.tail _ (List.Mem.tail _ (List.Mem.head _)))))) | exact List.Mem.tail _ (List.Mem.tail _ (List.Mem.tail _ (List.Mem.tail _ (List.Mem.tail _ (List.Mem.tail _ (List.Mem.tail _ (List.Mem.head _)))))))) rfl)) rfl ?_
    refine xo_rd (rd_fieldAddr rfl) rfl ?_
    refine xo_rd (rd_loadA (vs := y.i.enc) rfl rfl (cl_sub (b := r3) (vs := frE y.i y.k y.p y.ps.length y.c) (T := 41) (fr := (0, 0)) 0 (by first | exact List.Mem.head _ | exact List.Mem.tail _ (List.Mem.head _) | exact List.Mem.tail _ (List.Mem.tail _ (List.Mem.head _)) | exact List.Mem.tail _ (List.Mem.tail _ (List.Mem.tail _ (List.Mem.head _))) | exact List.Mem.tail _ (List.Mem.tail _ (List.Mem.tail _ (List.Mem.tail _ (List.Mem.head _)))) | exact List.Mem.tail _ (List.Mem.tail _ (List.Mem.tail _ (List.Mem.tail _ (List.Mem.tail _ (List.Mem.head _))))) | exact List.Mem.tail _ (List.Mem.tail _ (List.Mem.tail _ (List.Mem.tail _ (List.Mem.tail _ (List.Mem.tail _ (List.Mem.head _)))))) | exact List.Mem.tail _ (List.Mem.tail _ (List.Mem.tail _ (List.Mem.tail _ (List.Mem.tail _ (List.Mem.tail _ (List.Mem.tail _ (List.Mem.head _)))))))) rfl)) rfl ?_
    refine xo_rd (rd_cast (v' := .bool si) (rd_eqS (eqs38 x.i y.i) rfl rfl) (by rw [hsi])) rfl ?_
    refine xo_rd (rd_move rfl) rfl ?_
    refine xo_split 10 rfl (fun hz1 => ?_) (fun hz1 => ?_)
    refine xo_grd rfl rfl (rd_fieldAddr rfl) rfl ?_
    refine xo_grd rfl rfl (rd_load1 rfl (Cl.o1 rfl)) rfl ?_
    refine xo_grd rfl rfl (rd_fieldAddr rfl) rfl ?_
    refine xo_grd rfl rfl (rd_load1 rfl (Cl.o0 rfl)) rfl ?_
    refine xo_grd rfl rfl (rd_eqb rfl rfl) rfl ?_
    refine xo_rd (rd_pickt rfl rfl) rfl ?_
    refine xo_rd (rd_move rfl) rfl ?_
    refine xo_split 17 rfl (fun hz2 => ?_) (fun hz2 => ?_)
    refine xo_grd rfl rfl (rd_fieldAddr rfl) rfl ?_
    refine xo_grd rfl rfl (rd_load1 rfl (Cl.o1 rfl)) rfl ?_
    refine xo_grd rfl rfl (rd_fieldAddr rfl) rfl ?_
    refine xo_grd rfl rfl (rd_load1 rfl (Cl.o0 rfl)) rfl ?_
    refine xo_gef rfl rfl rfl (ef_call rfl (XF.mono (xf_equalPts x.p y.p x.ps.length y.ps.length x.c y.c x.ps y.ps rfl rfl (hrs.mono (by intro z hz; simp [hz])) (hrs'.mono (by intro z hz; simp [hz])) (fun z hz => (hrt z hz).mono (by intro z hz; simp [hz])) (fun z hz => (hrt' z hz).mono (by intro z hz; simp [hz])) hn hfr _ rfl) ?_))
    rintro v L' ⟨rfl, rfl⟩
    refine xo_rd (rd_pickt rfl rfl) rfl ?_
    refine xo_rd (rd_assign rfl) rfl ?_
    refine xo_nil ?_
    refine xq_seq ?_
    refine xc_ret ?_
    rotate_left
    refine xo_gskip rfl rfl rfl rfl ?_
    refine xo_gskip rfl rfl rfl rfl ?_
    refine xo_gskip rfl rfl rfl rfl ?_
    refine xo_gskip rfl rfl rfl rfl ?_
    refine xo_gskip rfl rfl rfl rfl ?_
    refine xo_rd (rd_pickf rfl rfl) rfl ?_
    refine xo_rd (rd_assign rfl) rfl ?_
    refine xo_nil ?_
    refine xq_seq ?_
    refine xc_ret ?_
    rotate_left
    refine xo_gskip rfl rfl rfl rfl ?_
    refine xo_gskip rfl rfl rfl rfl ?_
    refine xo_gskip rfl rfl rfl rfl ?_
    refine xo_gskip rfl rfl rfl rfl ?_
    refine xo_gskip rfl rfl rfl rfl ?_
    refine xo_rd (rd_pickf rfl rfl) rfl ?_
    refine xo_rd (rd_move rfl) rfl ?_
    refine xo_gskip rfl rfl rfl rfl ?_
    refine xo_gskip rfl rfl rfl rfl ?_
    refine xo_gskip rfl rfl rfl rfl ?_
    refine xo_gskip rfl rfl rfl rfl ?_
    refine xo_gskip rfl rfl rfl rfl ?_
    refine xo_rd (rd_pickf rfl rfl) rfl ?_
    refine xo_rd (rd_assign rfl) rfl ?_
    refine xo_nil ?_
    refine xq_seq ?_
    refine xc_ret ?_
    rotate_left
  · rw [hz1, decide_eq_true_iff] at hsi
    have hk : x.k = y.k := by simpa using hz2
    exact xq_sub (List.sublist_append_right [_, _] _) (xq_ret1 (.inl rfl) Try.results34 rfl ⟨congrArg Value.bool (decide_eq_decide.2 ⟨fun e => (Fa.eq_iff _ _).2 ⟨hsi, hk, e⟩, fun e => congrArg Fa.ps e⟩), rfl⟩)
  · have hk : ¬ x.k = y.k := by simpa using hz2
    exact xq_sub (List.sublist_append_right [_, _] _) (xq_ret1 (.inl rfl) Try.results34 rfl ⟨congrArg Value.bool (decide_eq_false fun e => hk (congrArg Fa.k e)).symm, rfl⟩)
  · rw [hz1, decide_eq_false_iff_not] at hsi
    exact xq_sub (List.sublist_append_right [_, _] _) (xq_ret1 (.inl rfl) Try.results34 rfl ⟨congrArg Value.bool (decide_eq_false fun e => hsi (congrArg Fa.i e)).symm, rfl⟩)
end Go.Proofs.Ytpheiklhjelkcaa.X
/-
  Chapter 19: what a queue keeps: no program in sight, no condition.
-/
namespace Go.Proofs.Ytpheiklhjelkcaa.X
open Go Go.RowKit
set_option linter.unusedVariables false
set_option linter.unusedSimpArgs false
/-- The entries that are frames. -/
def fs (l : List Ea) : List Ea := l.filter fun e => !e.lo
theorem fs_app (A B : List Ea) : fs (A ++ B) = fs A ++ fs B := List.filter_append ..
theorem framesA_fs (l : List Ea) : framesA l = (fs l).length := List.countP_eq_length_filter
theorem mem_fs {l : List Ea} {a : Ea} : a ∈ fs l ↔ a ∈ l ∧ a.lo = false := by
  unfold fs; rw [List.mem_filter]; simp
theorem fs_lo {a : Ea} (h : a.lo = true) : fs [a] = [] := by simp [fs, h]
theorem fs_hi {a : Ea} (h : a.lo = false) : fs [a] = [a] := by simp [fs, h]
theorem fs_joinA (l : List Ea) (x : Ea) : fs (joinA l x) = fs l ++ fs [x] := by
  rcases snoc_cases l with rfl | ⟨A, a, rfl⟩
  · rw [joinA_nil']; rfl
  · rw [joinA_snoc]
    split
    · rename_i hj
      obtain ⟨h1, h2, _, _⟩ := joins_iff.1 hj
      rw [fs_app, fs_app, fs_lo (joined_lo a x).1, fs_lo h1, fs_lo h2]
      simp
    · rw [show A ++ [a, x] = A ++ [a] ++ [x] by simp, fs_app]
theorem fs_fold : ∀ (l A : List Ea), fs (l.foldl joinA A) = fs A ++ fs l
  | [], A => by simp [fs]
  | x :: r, A => by
    rw [List.foldl_cons, fs_fold r, fs_joinA, List.append_assoc, ← fs_app]; rfl
theorem fs_joinAll (l : List Ea) : fs (joinAll l) = fs l := by
  unfold joinAll; rw [fs_fold]; rfl
theorem joinA_head {a : Ea} (h : a.lo = false) (s : List Ea) (x : Ea) : ∃ s', joinA (a :: s) x = a :: s' := by
  rcases snoc_cases s with rfl | ⟨A, z, rfl⟩
  · have := joinA_snoc [] a x
    rw [if_neg (by rw [joins_iff]; intro h2; rw [h] at h2; cases h2.1)] at this
    exact ⟨[x], this⟩
  · rw [← List.cons_append, joinA_snoc]
    exact ⟨_, rfl⟩
theorem fold_head {a : Ea} (h : a.lo = false) : ∀ (l s : List Ea), ∃ s', l.foldl joinA (a :: s) = a :: s'
  | [], s => ⟨s, rfl⟩
  | x :: r, s => by
    obtain ⟨s', hs⟩ := joinA_head h s x
    rw [List.foldl_cons, hs]
    exact fold_head h r s'
theorem joinAll_head {a : Ea} (h : a.lo = false) (r : List Ea) : ∃ r', joinAll (a :: r) = a :: r' := by
  unfold joinAll
  rw [List.foldl_cons, joinA_nil']
  exact fold_head h r []
theorem cp1 (p : Ea → Bool) : ∀ (l : List Ea) (k : Nat), (∀ i a, l[i]? = some a → p a = true → i = k) → l.countP p ≤ 1
  | [], _, _ => by simp
  | x :: r, 0, h => by
    have h0 : r.countP p = 0 := by
      rw [List.countP_eq_zero]
      intro a ha hp
      obtain ⟨i, hi⟩ := List.mem_iff_getElem?.1 ha
      have := h (i + 1) a (by simpa using hi) hp
      omega
    rw [List.countP_cons, h0]
    split <;> omega
  | x :: r, k + 1, h => by
    have hx : p x = false := by
      cases hp : p x with
      | false => rfl
      | true => have := h 0 x rfl hp; omega
    rw [List.countP_cons, hx]
    have := cp1 p r k fun i a hi hp => by have := h (i + 1) a (by simpa using hi) hp; omega
    simpa using this
theorem cp2 (p : Ea → Bool) : ∀ (l : List Ea) (k j : Nat), (∀ i a, l[i]? = some a → p a = true → i = k ∨ i = j) → l.countP p ≤ 2
  | [], _, _, _ => by simp
  | x :: r, 0, j, h => by
    have := cp1 p r (j - 1) fun i a hi hp => by have := h (i + 1) a (by simpa using hi) hp; omega
    rw [List.countP_cons]
    split <;> omega
  | x :: r, k + 1, 0, h => by
    have := cp1 p r k fun i a hi hp => by have := h (i + 1) a (by simpa using hi) hp; omega
    rw [List.countP_cons]
    split <;> omega
  | x :: r, k + 1, j + 1, h => by
    have hx : p x = false := by
      cases hp : p x with
      | false => rfl
      | true => have := h 0 x rfl hp; omega
    rw [List.countP_cons, hx]
    have := cp2 p r k j fun i a hi hp => by have := h (i + 1) a (by simpa using hi) hp; omega
    simpa using this
theorem fresh_iff {l : List Ea} {bg : Bool} {i : Nat} {a : Ea} (h : l[i]? = some a) : freshA l bg i = (!a.lo && (decide (0 < i) || !bg)) := by
  unfold freshA; rw [h]
theorem first_le_of {p : Nat → Bool} {n i : Nat} (hp : p i = true) : first p n ≤ i := by
  rcases Nat.lt_or_ge i (first p n) with h | h
  · rw [first_not h] at hp; cases hp
  · exact h
theorem lastI_ge {p : Nat → Bool} : ∀ {n i : Nat}, i < n → p i = true → (i : Int) ≤ lastI p n
  | 0, i, h, _ => by omega
  | n + 1, i, h, hp => by
    unfold lastI
    split
    · omega
    · rename_i hn
      by_cases e : i = n
      · subst e; exact absurd hp hn
      · exact lastI_ge (by omega) hp
theorem vic_ne {k : Nat} {bg : Bool} {l : List Ea} (h : 0 ≤ vicA k bg l) : (vicA k bg l).toNat ≠ k ∧ freshA l bg (vicA k bg l).toNat = true := by
  unfold vicA at *
  dsimp only at *
  split at h
  · rename_i hl
    rw [if_pos hl]
    have := first_spec hl
    simp only [Bool.and_eq_true, decide_eq_true_iff] at this
    rw [Int.toNat_natCast]
    exact ⟨by omega, this.2⟩
  · rename_i hl
    rw [if_neg hl]
    have := lastI_spec h
    simp only [Bool.and_eq_true, decide_eq_true_iff] at this
    exact ⟨by omega, this.2⟩
theorem vic_neg {k : Nat} {bg : Bool} {l : List Ea} (h : vicA k bg l < 0) : ∀ i, i < l.length → freshA l bg i = true → i = k := by
  intro i hi hf
  unfold vicA at h
  dsimp only at h
  split at h
  · omega
  · rename_i hl
    rcases Nat.lt_trichotomy i k with h1 | h1 | h1
    · have := first_le_of (p := fun i => decide (i < k) && freshA l bg i) (n := l.length) (i := i) (by simp [h1, hf])
      omega
    · exact h1
    · have := lastI_ge (p := fun i => decide (k < i) && freshA l bg i) hi (by simp [h1, hf])
      omega
theorem vic_few {k : Nat} {bg : Bool} {l : List Ea} (h : vicA k bg l < 0) : framesA l ≤ 2 := by
  unfold framesA
  refine cp2 _ l k 0 fun i a hi hp => ?_
  have hil := (List.getElem?_eq_some_iff.1 hi).1
  by_cases h0 : i = 0
  · exact .inr h0
  · refine .inl (vic_neg h i hil ?_)
    rw [fresh_iff hi, hp, decide_eq_true (by omega)]; rfl
theorem lat_fs : ∀ (l : List Ea) (b : Int), l.foldl latS b = (fs l).foldl latS b
  | [], b => rfl
  | x :: r, b => by
    rw [List.foldl_cons, lat_fs r]
    cases hx : x.lo with
    | true =>
      have : latS b x = b := by unfold latS; rw [hx]
      rw [this, show fs (x :: r) = fs [x] ++ fs r from fs_app [x] r, fs_lo hx]; rfl
    | false =>
      rw [show fs (x :: r) = fs [x] ++ fs r from fs_app [x] r, fs_hi hx]; rfl
theorem latA_fs (l : List Ea) : latA l = latA (fs l) := lat_fs l 0
theorem lat_base : ∀ (l : List Ea) (b : Int), b ≤ l.foldl latS b
  | [], b => Int.le_refl _
  | x :: r, b => by rw [List.foldl_cons]; exact Int.le_trans (latS_ge b x) (lat_base r _)
theorem lat_ge : ∀ (l : List Ea) (b : Int) (a : Ea), a ∈ l → a.lo = false → a.g ≤ l.foldl latS b
  | [], b, a, h, _ => by cases h
  | x :: r, b, a, h, hl => by
    rw [List.foldl_cons]
    rcases List.mem_cons.1 h with rfl | h
    · refine Int.le_trans ?_ (lat_base r _)
      unfold latS; rw [hl]; dsimp only; split <;> omega
    · exact lat_ge r _ a h hl
theorem latA_join (l : List Ea) (x : Ea) : latA (joinA l x) = latS (latA l) x := by
  rw [latA_fs, fs_joinA]
  cases hx : x.lo with
  | true => rw [fs_lo hx, List.append_nil, ← latA_fs]; unfold latS; rw [hx]
  | false => rw [fs_hi hx, latA_snoc, ← latA_fs]
theorem joinA_get (l : List Ea) (x : Ea) (j : Nat) (a : Ea) (h : l[j]? = some a) : ∃ b, (joinA l x)[j]? = some b ∧ (b = a ∨ a.lo = true ∧ b.lo = true) := by
  have hj := (List.getElem?_eq_some_iff.1 h).1
  rcases snoc_cases l with rfl | ⟨A, z, rfl⟩
  · simp at h
  · rw [joinA_snoc]
    rw [List.length_append, List.length_singleton] at hj
    by_cases hA : j < A.length
    · rw [List.getElem?_append_left hA] at h ⊢
      exact ⟨a, h, .inl rfl⟩
    · have hjA : j = A.length := by omega
      subst hjA
      rw [List.getElem?_append_right (Nat.le_refl _), Nat.sub_self] at h ⊢
      simp only [List.getElem?_cons_zero, Option.some.injEq] at h
      subst h
      split
      · rename_i hz
        exact ⟨_, rfl, .inr ⟨(joins_iff.1 hz).1, (joined_lo z x).1⟩⟩
      · exact ⟨z, rfl, .inl rfl⟩
theorem fresh_join (l : List Ea) (x : Ea) (bg : Bool) (j : Nat) (hj : j < l.length) : freshA (joinA l x) bg j = freshA l bg j := by
  have h := List.getElem?_eq_getElem hj
  obtain ⟨b, hb, hc⟩ := joinA_get l x j _ h
  rw [fresh_iff h, fresh_iff hb]
  rcases hc with rfl | ⟨h1, h2⟩
  · rfl
  · rw [h1, h2]
theorem key_iff {bg : Bool} {l : List Ea} {i : Nat} {a : Ea} (h : l[i]? = some a) : keyA true bg l i = (freshA l bg i && (a.f.k && decide (a.g = latA l))) := by
  unfold keyA; rw [h, Bool.true_and]
theorem key_join (l : List Ea) (x : Ea) (bg : Bool) (hl : latA (joinA l x) = latA l) (j : Nat) (hj : j < l.length) : keyA true bg (joinA l x) j = keyA true bg l j := by
  have h := List.getElem?_eq_getElem hj
  obtain ⟨b, hb, hc⟩ := joinA_get l x j _ h
  rw [key_iff h, key_iff hb, hl, fresh_join l x bg j hj]
  rcases hc with rfl | ⟨h1, h2⟩
  · rfl
  · rw [fresh_iff h, h1]; rfl
theorem mid_mem {A B : List Ea} {x a : Ea} {i : Nat} (h : (A ++ x :: B)[i]? = some a) (hi : i ≠ A.length) : a ∈ A ∨ a ∈ B := by
  rcases Nat.lt_or_ge i A.length with h1 | h1
  · rw [List.getElem?_append_left h1] at h
    exact .inl (List.mem_of_getElem? h)
  · rw [List.getElem?_append_right h1] at h
    obtain ⟨k, hk⟩ : ∃ k, i - A.length = k + 1 := ⟨i - A.length - 1, by omega⟩
    rw [hk, List.getElem?_cons_succ] at h
    exact .inr (List.mem_of_getElem? h)
/-- The key that is kept is not the one that is evicted, if the latest grant stays. -/
theorem kept_stays {l : List Ea} {e a : Ea} {bg : Bool} (hk : keptA true bg l < l.length) (ha : l[keptA true bg l]? = some a) {v : Nat} (hv0 : 0 ≤ victimA true bg (joinA l e)) (hv : (victimA true bg (joinA l e)).toNat = v) {A B : List Ea} {x : Ea} (hm : joinA l e = A ++ x :: B) (hA : A.length = v) (l' : List Ea) (hl' : fs l' = fs A ++ fs B) (hlat : latA l' = latA l) : a ∈ l' := by
  have hkey : keyA true bg l (keptA true bg l) = true := first_spec hk
  have hfr : freshA l bg (keptA true bg l) = true := by
    rw [key_iff ha] at hkey; simp only [Bool.and_eq_true] at hkey; exact hkey.1
  have halo : a.lo = false := by
    rw [fresh_iff ha] at hfr; simp only [Bool.and_eq_true] at hfr; simpa using hfr.1
  have hml : l.length ≤ (joinA l e).length := by
    obtain ⟨b, hb, _⟩ := joinA_get l e (l.length - 1) _ (List.getElem?_eq_getElem (by omega))
    have := (List.getElem?_eq_some_iff.1 hb).1; omega
  have done : ∀ (i : Nat) (z : Ea), (joinA l e)[i]? = some z → z.lo = false → i ≠ v → z ∈ l' := fun i z hz hzl hi => by
    rw [hm] at hz
    have h1 : z ∈ fs l' := by
      rw [hl', List.mem_append]
      rcases mid_mem hz (by omega) with h | h
      · exact .inl (mem_fs.2 ⟨h, hzl⟩)
      · exact .inr (mem_fs.2 ⟨h, hzl⟩)
    exact (mem_fs.1 h1).1
  have hne := vic_ne hv0
  rw [show vicA (keptA true bg (joinA l e)) bg (joinA l e) = victimA true bg (joinA l e) from rfl, hv] at hne
  have hgetk : (joinA l e)[keptA true bg l]? = some a := by
    obtain ⟨b, hb, hc⟩ := joinA_get l e _ a ha
    rcases hc with rfl | ⟨h1, _⟩
    · exact hb
    · rw [halo] at h1; cases h1
  by_cases hl : latA (joinA l e) = latA l
  · have hkm : keptA true bg (joinA l e) = keptA true bg l := first_hit (by omega) (by rw [key_join l e bg hl _ hk]; exact hkey) fun j hj => by
      rw [key_join l e bg hl j (by omega)]; exact first_not hj
    rw [hkm] at hne
    exact done _ a hgetk halo (by omega)
  · exfalso
    rw [latA_join] at hl
    have helo : e.lo = false := by
      cases h : e.lo with
      | false => rfl
      | true => unfold latS at hl; rw [h] at hl; exact absurd rfl hl
    have heg : latA l < e.g := by
      unfold latS at hl
      rw [helo] at hl
      dsimp only at hl
      split at hl
      · omega
      · exact absurd rfl hl
    have hlm : latA (joinA l e) = e.g := by
      rw [latA_join]; unfold latS; rw [helo]; dsimp only; rw [if_pos heg]
    have hme : joinA l e = l ++ [e] := by
      rcases snoc_cases l with rfl | ⟨A0, z, rfl⟩
      · rfl
      · rw [joinA_snoc, if_neg (by rw [joins_iff, helo]; intro h; cases h.2.1)]; simp
    have hgete : (joinA l e)[l.length]? = some e := by rw [hme]; simp
    have hvn : l.length ≠ v := by
      intro hvv
      have hkm := hne.1
      by_cases hkl : keptA true bg (joinA l e) < (joinA l e).length
      · have hk2 : keyA true bg (joinA l e) (keptA true bg (joinA l e)) = true := first_spec hkl
        by_cases hk3 : keptA true bg (joinA l e) < l.length
        · have h4 := List.getElem?_eq_getElem hk3
          obtain ⟨b, hb, hc⟩ := joinA_get l e _ _ h4
          rw [key_iff hb, hlm] at hk2
          simp only [Bool.and_eq_true, decide_eq_true_iff] at hk2
          rw [fresh_iff hb] at hk2
          simp only [Bool.and_eq_true] at hk2
          have hblo : b.lo = false := by simpa using hk2.1.1
          rcases hc with rfl | ⟨_, h5⟩
          · have := lat_ge l 0 _ (List.getElem_mem hk3) hblo
            have h6 : latA l = l.foldl latS 0 := rfl
            omega
          · rw [hblo] at h5; cases h5
        · have hlen : (joinA l e).length = l.length + 1 := by rw [hme]; simp
          omega
      · have hp : first (fun i => decide (i < keptA true bg (joinA l e)) && freshA (joinA l e) bg i) (joinA l e).length ≤ keptA true bg l := first_le_of (by
          rw [fresh_join l e bg _ hk, hfr, decide_eq_true (by omega)]; rfl)
        have h7 : victimA true bg (joinA l e) = (first (fun i => decide (i < keptA true bg (joinA l e)) && freshA (joinA l e) bg i) (joinA l e).length : Nat) := by
          unfold victimA vicA
          dsimp only
          rw [if_pos (by omega)]
        rw [h7, Int.toNat_natCast] at hv
        omega
    have := lat_ge l' 0 e (done _ e hgete helo hvn) helo
    have h6 : latA l' = l'.foldl latS 0 := rfl
    omega
/-- What Put keeps. -/
theorem putK (most : Int) (hm : 1 ≤ most) (ca bg : Bool) (l : List Ea) (e : Ea) (h : Stl l) (hfr : (framesA l : Int) ≤ most + 1) :
    Stl (putA most ca bg l e).1 ∧ framesA (putA most ca bg l e).1 + (putA most ca bg l e).2 = framesA l + (if e.lo = true then 0 else 1) ∧ (framesA (putA most ca bg l e).1 : Int) ≤ most + 1 ∧ (fs (putA most ca bg l e).1).Sublist (fs l ++ fs [e]) ∧ (bg = true → ∀ a r, l = a :: r → a.lo = false → ∃ r', (putA most ca bg l e).1 = a :: r') ∧ (ca = true → keptA true bg l < l.length → latA (putA most ca bg l e).1 = latA l → ∀ a, l[keptA true bg l]? = some a → a ∈ (putA most ca bg l e).1) := by
  obtain ⟨hR, hS⟩ := put_law most ca bg l e h
  refine ⟨hS, ?_⟩
  rw [hR]
  unfold putR
  rw [show joinAll (l ++ [e]) = joinA l e by rw [joinAll_mid l e [] h]; rfl]
  have hfm : fs (joinA l e) = fs l ++ fs [e] := fs_joinA l e
  have hcm : framesA (joinA l e) = framesA l + (if e.lo = true then 0 else 1) := by
    rw [framesA_fs, framesA_fs, hfm, List.length_append]
    congr 1
    cases he : e.lo with
    | true => rw [fs_lo he]; rfl
    | false => rw [fs_hi he]; rfl
  have same : ∀ n : Nat, n = 0 → (framesA (joinA l e) : Int) ≤ most + 1 → framesA (joinA l e) + n = framesA l + (if e.lo = true then 0 else 1) ∧ (framesA (joinA l e) : Int) ≤ most + 1 ∧ (fs (joinA l e)).Sublist (fs l ++ fs [e]) ∧ (bg = true → ∀ a r, l = a :: r → a.lo = false → ∃ r', joinA l e = a :: r') ∧ (ca = true → keptA true bg l < l.length → latA (joinA l e) = latA l → ∀ a, l[keptA true bg l]? = some a → a ∈ joinA l e) := fun n hn hle => by
    subst hn
    refine ⟨hcm, hle, by rw [hfm]; exact List.Sublist.refl _, fun _ a r hl ha => by rw [hl]; exact joinA_head ha r e, fun _ hk _ a ha => ?_⟩
    obtain ⟨b, hb, hc⟩ := joinA_get l e _ a ha
    have hkey : keyA true bg l (keptA true bg l) = true := first_spec hk
    rw [key_iff ha, fresh_iff ha] at hkey
    simp only [Bool.and_eq_true] at hkey
    rcases hc with rfl | ⟨h1, _⟩
    · exact List.mem_of_getElem? hb
    · rw [h1] at hkey; simp at hkey
  unfold putW
  split
  · exact same 0 rfl (by omega)
  · rename_i hgt
    split
    · rename_i hv
      exact same 0 rfl (by have := vic_few hv; omega)
    · rename_i hv
      have hv0 : 0 ≤ victimA ca bg (joinA l e) := by omega
      cases hx : (joinA l e)[(victimA ca bg (joinA l e)).toNat]? with
      | none =>
        have := vic_lt ca bg (joinA l e)
        rw [List.getElem?_eq_none_iff] at hx
        omega
      | some x =>
        dsimp only
        obtain ⟨A, B, hl, hA, hs⟩ := split_at (y := x.note) hx
        have hne := vic_ne hv0
        rw [show vicA (keptA ca bg (joinA l e)) bg (joinA l e) = victimA ca bg (joinA l e) from rfl, fresh_iff hx] at hne
        simp only [Bool.and_eq_true, Bool.or_eq_true, decide_eq_true_iff] at hne
        have hxl : x.lo = false := by simpa using hne.2.1
        have hf' : fs (joinAll ((joinA l e).set (victimA ca bg (joinA l e)).toNat x.note)) = fs A ++ fs B := by
          rw [fs_joinAll, hs, show A ++ x.note :: B = A ++ ([x.note] ++ B) from rfl, fs_app, fs_app, fs_lo (a := x.note) rfl, List.nil_append]
        have hf2 : fs (joinA l e) = fs A ++ x :: fs B := by
          rw [hl, show A ++ x :: B = A ++ ([x] ++ B) from rfl, fs_app, fs_app, fs_hi hxl]; rfl
        have hcn : framesA (joinA l e) = framesA (joinAll ((joinA l e).set (victimA ca bg (joinA l e)).toNat x.note)) + 1 := by
          rw [framesA_fs, framesA_fs, hf', hf2]
          simp only [List.length_append, List.length_cons]; omega
        refine ⟨by omega, ?_, ?_, fun hb a r hlr ha => ?_, fun hca hk hlat a hak => ?_⟩
        · have : (if e.lo = true then 0 else 1 : Nat) ≤ 1 := by split <;> omega
          omega
        · rw [hf', ← hfm, hf2]
          exact (List.Sublist.refl _).append (List.sublist_cons_self _ _)
        · obtain ⟨r1, hr1⟩ := joinA_head ha r e
          rw [← hlr] at hr1
          have hpos : 0 < A.length := by
            rcases hne.2.2 with h1 | h1
            · omega
            · rw [hb] at h1; simp at h1
          rw [hs]
          cases A with
          | nil => exact absurd hpos (Nat.lt_irrefl _)
          | cons z A' =>
            rw [hr1, List.cons_append] at hl
            simp only [List.cons.injEq] at hl
            rw [← hl.1, List.cons_append]
            exact joinAll_head ha _
        · subst hca
          exact kept_stays hk hak hv0 rfl hl hA _ hf' hlat
/-- What stands in a queue: numbers that rise, each frame as it was made. -/
structure Kp (l : List Ea) (last : Int) (i : Nat) : Prop where
  ri : (fs l).Pairwise fun a b => a.f.i.pic < b.f.i.pic
  md : ∀ a, a ∈ fs l → last < a.f.i.pic ∧ a.f.i.pic < i ∧ a.f = madeF a.f.k a.f.i.pic
theorem Kp.nil : Kp [] (-1) 0 := ⟨List.Pairwise.nil, fun a h => by cases h⟩
theorem Kp.up {l : List Ea} {last : Int} {i : Nat} (h : Kp l last i) : Kp l last (i + 1) := ⟨h.ri, fun a ha => ⟨(h.md a ha).1, by have := (h.md a ha).2.1; omega, (h.md a ha).2.2⟩⟩
theorem Kp.put {l l' : List Ea} {last : Int} {i : Nat} {e : Ea} (h : Kp l last i) (hli : last < i) (hi : i < 32768) (hs : (fs l').Sublist (fs l ++ fs [e])) (he : e.lo = false → ∃ k, e.f = madeF k i) : Kp l' last (i + 1) := by
  have hz : ∀ a, a ∈ fs [e] → a.f.i.pic = i ∧ a.f = madeF a.f.k a.f.i.pic := fun a ha => by
    obtain ⟨h1, h2⟩ := mem_fs.1 ha
    rw [List.mem_singleton.1 h1] at h2 ⊢
    obtain ⟨k, hk⟩ := he h2
    have hp : (madeF k i).i.pic = i := by show (i : Int) % 32768 = i; omega
    rw [hk, hp]; exact ⟨rfl, rfl⟩
  refine ⟨?_, fun a ha => ?_⟩
  · refine List.Pairwise.sublist hs (List.pairwise_append.2 ⟨h.ri, ?_, fun a ha b hb => ?_⟩)
    · cases hl : e.lo with
      | true => rw [fs_lo hl]; exact List.Pairwise.nil
      | false => rw [fs_hi hl]; exact List.pairwise_singleton _ _
    · rw [(hz b hb).1]; exact (h.md a ha).2.1
  · rcases List.mem_append.1 (hs.subset ha) with h1 | h1
    · have := h.md a h1; exact ⟨this.1, by omega, this.2.2⟩
    · have := hz a h1; exact ⟨by omega, by omega, this.2⟩
theorem Kp.drop {e : Ea} {l : List Ea} {last : Int} {i : Nat} (h : Kp (e :: l) last i) : Kp l (if e.lo = true then last else e.f.i.pic) i := by
  cases hl : e.lo with
  | true =>
    have hf : fs (e :: l) = fs l := by rw [show fs (e :: l) = fs [e] ++ fs l from fs_app [e] l, fs_lo hl]; rfl
    rw [if_pos rfl]
    exact ⟨hf ▸ h.ri, fun a ha => h.md a (hf ▸ ha)⟩
  | false =>
    have hf : fs (e :: l) = e :: fs l := by rw [show fs (e :: l) = fs [e] ++ fs l from fs_app [e] l, fs_hi hl]; rfl
    rw [if_neg (by decide)]
    have hp := List.pairwise_cons.1 (hf ▸ h.ri)
    exact ⟨hp.2, fun a ha => ⟨hp.1 a ha, (h.md a (by rw [hf]; exact List.mem_cons_of_mem _ ha)).2⟩⟩
theorem Kp.head {e : Ea} {l : List Ea} {last : Int} {i : Nat} (h : Kp (e :: l) last i) (hl : e.lo = false) : last < e.f.i.pic ∧ e.f.i.pic < i ∧ e.f = madeF e.f.k e.f.i.pic :=
  h.md e (mem_fs.2 ⟨List.mem_cons_self, hl⟩)
theorem stl_get : ∀ {l : List Ea} (h : Stl l) (n : Nat) (a b : Ea), l[n]? = some a → l[n + 1]? = some b → a.joins b = false
  | [], _, n, a, b, ha, _ => by simp at ha
  | [x], _, n, a, b, ha, hb => by simp at hb
  | x :: y :: r, h, 0, a, b, ha, hb => by
    simp only [List.getElem?_cons_zero, List.getElem?_cons_succ, Option.some.injEq] at ha hb
    subst ha hb; exact h.1
  | x :: y :: r, h, n + 1, a, b, ha, hb => stl_get (l := y :: r) h.2 n a b (by simpa using ha) (by simpa using hb)
end Go.Proofs.Ytpheiklhjelkcaa.X
/-
  Chapter 19: the law's words of what is kept: walks of my own.
-/
namespace Go.Proofs.Ytpheiklhjelkcaa.X
open Go Go.RowKit
set_option linter.unusedVariables false
set_option linter.unusedSimpArgs false
set_option maxHeartbeats 1600000 in
theorem xf_llat {W : World} {L : List Blk} (p : Option Addr) (n c : Nat) (es : List En) (hn : es.length = n) (hr : Rs W L p (es.flatMap En.enc)) (hm : n ≤ 1000000) :
    XF Try.prog W 35 #[.slice p n c] L (fun v L' => v = .int .u64 (latA (es.map En.a)) ∧ L' = L) := by
  refine xf_enter (args := [_]) Try.func35 rfl Try.ntmps35 rfl ?_
  focus
    refine xc_seq ?_
    refine xc_region ?_
    refine xo_rd (rd_assign rfl) rfl ?_
    refine xo_nil ?_
    refine xq_seq ?_
    refine xc_seq ?_
    refine xc_region ?_
    refine xo_rd (rd_assign rfl) rfl ?_
    refine xo_nil ?_
    refine xq_seq ?_
    refine xc_seq ?_
    refine xc_seq ?_
    refine xc_region ?_
    refine xo_rd (rd_assign rfl) rfl ?_
    refine xo_nil ?_
    refine xq_seq ?_
    refine xc_block ?_
  refine xc_loopK (ι := Nat) (fun i => i ≤ n) (fun i => n - i) (fun i => [(0, .slice p n c), (3, .int .u64 (latA ((es.map En.a).take i))), (4, .int .i64 i)]) 0 (Nat.zero_le _) (by repeat (first | exact keep_nil | refine keep_cons rfl ?_)) ?_
  intro i hi
  by_cases hin : i < n
  · obtain ⟨b, o, hp, hc⟩ := hr.rows En.len (by decide) (by omega)
    subst hp
    have hci := hc i (by omega)
    have hlat := latA_take (es.map En.a) i (by rw [List.length_map]; omega)
    rw [List.getElem_map] at hlat
    generalize es[i] = e at *
    have hg := hci 0 _ rfl
    have hlo := hci 2 _ rfl
    focus
      refine xc_seq ?_
      refine xc_seq ?_
      refine xc_region ?_
      refine xo_rd (rd_move rfl) rfl ?_
      refine xo_rd (rd_move rfl) rfl ?_
      refine xo_rd (rd_len rfl) rfl ?_
      refine xo_rd (rd_lss rfl rfl) rfl ?_
      refine xo_nil ?_
      refine xq_seq ?_
      refine xc_dec rfl (fun hz1 => ?_) (fun hz1 => (by exfalso; omega))
      refine xc_skip ?_
      refine xq_seq ?_
      refine xc_seq ?_
      refine xc_block ?_
      refine xc_seq ?_
      refine xc_region ?_
      refine xo_rd (rd_move rfl) rfl ?_
      refine xo_rd (rd_move rfl) rfl ?_
      refine xo_rd (rd_indexAddr rfl rfl (by omega) (by omega)) rfl ?_
      refine xo_rd (rd_fieldAddr rfl) rfl ?_
      refine xo_rd (rd_fieldAddr rfl) rfl ?_
      refine xo_rd (rd_load1 rfl (hlo.mono (by intro z hz; simp [hz]))) rfl ?_
      refine xo_rd (rd_not rfl) rfl ?_
      refine xo_nil ?_
      refine xq_seq ?_
      refine xc_cond rfl (fun hz2 => ?_) (fun hz2 => ?_)
      refine xc_region ?_
      refine xo_rd (rd_move rfl) rfl ?_
      refine xo_rd (rd_move rfl) rfl ?_
      refine xo_rd (rd_move rfl) rfl ?_
      refine xo_rd (rd_indexAddr rfl rfl (by omega) (by omega)) rfl ?_
      refine xo_rd (rd_fieldAddr rfl) rfl ?_
      refine xo_rd (rd_load1 rfl (hg.mono (by intro z hz; simp [hz]))) rfl ?_
      refine xo_rd (rd_max rfl rfl) rfl ?_
      refine xo_rd (rd_assign rfl) rfl ?_
      refine xo_nil ?_
      refine xq_block ?_
      refine xq_seq ?_
      refine xc_region ?_
      refine xo_rd (rd_move rfl) rfl ?_
      refine xo_rd (rd_addn rfl rfl (by omega) (by omega)) rfl ?_
      refine xo_rd (rd_assign rfl) rfl ?_
      refine xo_nil ?_
      rotate_left
      refine xc_skip ?_
      refine xq_block ?_
      refine xq_seq ?_
      refine xc_region ?_
      refine xo_rd (rd_move rfl) rfl ?_
      refine xo_rd (rd_addn rfl rfl (by omega) (by omega)) rfl ?_
      refine xo_rd (rd_assign rfl) rfl ?_
      refine xo_nil ?_
      rotate_left
    all_goals
      refine xq_roundK rfl (i + 1) (by omega) (by omega) (List.Sublist.refl _) (by
        rw [hlat]
        unfold latS En.a
        dsimp only
        first
          | rw [show e.i.lo = false by simpa using hz2]; exact (by repeat (first | exact keep_nil | refine keep_cons rfl ?_))
          | rw [show e.i.lo = true by simpa using hz2]; exact (by repeat (first | exact keep_nil | refine keep_cons rfl ?_)))
  · skip
    focus
      refine xc_seq ?_
      refine xc_seq ?_
      refine xc_region ?_
      refine xo_rd (rd_move rfl) rfl ?_
      refine xo_rd (rd_move rfl) rfl ?_
      refine xo_rd (rd_len rfl) rfl ?_
      refine xo_rd (rd_lss rfl rfl) rfl ?_
      refine xo_nil ?_
      refine xq_seq ?_
      refine xc_dec rfl (fun h1 => (by exfalso; omega)) (fun h1 => ?_)
      refine xc_exit ?_
      refine xq_then_exit ?_
      refine xq_then_exit ?_
      refine xq_block_hit ?_
      refine xq_seq ?_
      refine xc_seq ?_
      refine xc_region ?_
      refine xo_rd (rd_move rfl) rfl ?_
      refine xo_rd (rd_assign rfl) rfl ?_
      refine xo_nil ?_
      refine xq_seq ?_
      refine xc_ret ?_
    have hin' : i = n := by omega
    subst hin'
    rw [List.take_of_length_le (by simp; omega)]
    exact xq_ret1 (.inl rfl) Try.results35 rfl ⟨rfl, rfl⟩
theorem En.at_f (e : En) {W : World} {L : List Blk} {b o : Nat} (h : ∀ (j : Nat) (u : Value), e.enc[j]? = some u → Cl W L b (o + j) u) : ∀ (j : Nat) (u : Value), e.i.f.enc[j]? = some u → Cl W L b (o + 2 + 4 + j) u := fun j u hj => by
  have := h (6 + j) u (by
    rw [← hj]
    show (([.int .u64 e.g, .int .i64 e.s, .bool e.i.lo, .bool e.i.kn, .int .u8 e.i.ti, .bool e.i.dr] : List Value) ++ e.i.f.enc)[6 + j]? = _
    rw [List.getElem?_append_right (by show (6 : Nat) ≤ 6 + j; omega)]
    congr 1
    show 6 + j - 6 = j
    omega)
  rwa [show o + 2 + 4 + j = o + (6 + j) by omega]
set_option maxHeartbeats 1600000 in
theorem xf_lkept {W : World} {L : List Blk} (p : Option Addr) (n c : Nat) (es : List En) (hn : es.length = n) (hr : Rs W L p (es.flatMap En.enc)) (hm : n ≤ 1000000) (bg : Bool) :
    XF Try.prog W 32 #[.slice p n c, .bool bg] L (fun v L' => ∃ (f : Fr) (b : Bool), v = .tuple #[.agg f.enc.toArray, .bool b] ∧ (b = true → keptA true bg (es.map En.a) < n ∧ ∃ e, es[keptA true bg (es.map En.a)]? = some e ∧ f = e.i.f) ∧ L' = L) := by
  refine xf_enter (args := [_, _]) Try.func32 rfl Try.ntmps32 rfl ?_
  focus
    refine xc_seq ?_
    refine xc_region ?_
    refine xo_ef rfl (ef_alloc fun r4 => ?_)
    refine xo_rd (rd_assign rfl) rfl ?_
    refine xo_nil ?_
    refine xq_seq ?_
    refine xc_seq ?_
    refine xc_seq ?_
    refine xc_region ?_
    refine xo_rd (rd_assign rfl) rfl ?_
    refine xo_nil ?_
    refine xq_seq ?_
    refine xc_block ?_
  refine xc_loopK (ι := Nat) (fun i => i ≤ n ∧ ∀ j, j < i → keyA true bg (es.map En.a) j = false) (fun i => n - i) (fun i => [(0, .slice p n c), (1, .bool bg), (4, .pointer (some ⟨r4, 0, none⟩)), (6, .int .i64 i)]) 0 ⟨Nat.zero_le _, fun j h => absurd h (Nat.not_lt_zero _)⟩ (by repeat (first | exact keep_nil | refine keep_cons rfl ?_)) ?_
  rintro i ⟨hi, hno⟩
  by_cases hin : i < n
  · obtain ⟨b, o, hp, hc⟩ := hr.rows En.len (by decide) (by omega)
    have hr0 := hr
    subst hp
    have hci := hc i (by omega)
    have e1 : es[i]? = some es[i] := List.getElem?_eq_getElem (by omega)
    have ea : (es.map En.a)[i]? = some (es[i]).a := by rw [List.getElem?_map, e1]; rfl
    have hk := key_iff (bg := bg) ea
    rw [fresh_iff ea] at hk
    generalize es[i] = e at *
    have hg := hci 0 _ rfl
    have hlo := hci 2 _ rfl
    have hke := hci 15 _ rfl
    have hcF := e.at_f hci
    focus
      refine xc_seq ?_
      refine xc_seq ?_
      refine xc_region ?_
      refine xo_rd (rd_move rfl) rfl ?_
      refine xo_rd (rd_move rfl) rfl ?_
      refine xo_rd (rd_len rfl) rfl ?_
      refine xo_rd (rd_lss rfl rfl) rfl ?_
      refine xo_nil ?_
      refine xq_seq ?_
      refine xc_dec rfl (fun hz1 => ?_) (fun hz1 => (by exfalso; omega))
      refine xc_skip ?_
      refine xq_seq ?_
      refine xc_seq ?_
      refine xc_block ?_
      refine xc_seq ?_
      refine xc_drawML [0, 0, 3, 4, 8, 16, 32, 64, 128, 384, 640, 1024, 3072, 5248, 8320, 17408, 32768, 32768, 229376, 294912, 557056, 1081344, 2129920, 4227072, 8421376, 16777216, 16777216, 117440512, 150994944, 285212672, 16777216, 1090519040, 2701131776, 4311744512] [0, 0, 3, 4, 8, 16, 32, 64, 128, 384, 640, 1024, 3072, 5248, 8320, 17408, 32768, 32768, 229376, 294912, 557056, 1081344, 2129920, 4227072, 8421376, 16777216, 16777216, 117440512, 150994944, 285212672, 16777216, 1090519040, 2701131776, 4311744512] (by kernel_rfl) (by kernel_rfl) (by kernel_rfl) ?_
      refine xm_take 0 (m' := 1) rfl (by kernel_rfl) (by first | exact Sb.refl | exact Sb.nil | (repeat (first | exact Sb.nil | exact Sb.refl | exact Sb.app0 | apply Sb.keep | apply Sb.keepApp | apply Sb.cons | apply Sb.app))) (rd_move rfl) rfl (by kernel_rfl) ?_
      refine xm_take 1 (m' := 3) rfl (by kernel_rfl) (by first | exact Sb.refl | exact Sb.nil | (repeat (first | exact Sb.nil | exact Sb.refl | exact Sb.app0 | apply Sb.keep | apply Sb.keepApp | apply Sb.cons | apply Sb.app))) (rd_move rfl) rfl (by kernel_rfl) ?_
      refine xm_take 2 (m' := 7) rfl (by kernel_rfl) (by first | exact Sb.refl | exact Sb.nil | (repeat (first | exact Sb.nil | exact Sb.refl | exact Sb.app0 | apply Sb.keep | apply Sb.keepApp | apply Sb.cons | apply Sb.app))) (rd_indexAddr rfl rfl (by omega) (by omega)) rfl (by kernel_rfl) ?_
      refine xm_take 3 (m' := 15) rfl (by kernel_rfl) (by first | exact Sb.refl | exact Sb.nil | (repeat (first | exact Sb.nil | exact Sb.refl | exact Sb.app0 | apply Sb.keep | apply Sb.keepApp | apply Sb.cons | apply Sb.app))) (rd_fieldAddr rfl) rfl (by kernel_rfl) ?_
      refine xm_take 4 (m' := 31) rfl (by kernel_rfl) (by first | exact Sb.refl | exact Sb.nil | (repeat (first | exact Sb.nil | exact Sb.refl | exact Sb.app0 | apply Sb.keep | apply Sb.keepApp | apply Sb.cons | apply Sb.app))) (rd_fieldAddr rfl) rfl (by kernel_rfl) ?_
      refine xm_take 5 (m' := 63) rfl (by kernel_rfl) (by first | exact Sb.refl | exact Sb.nil | (repeat (first | exact Sb.nil | exact Sb.refl | exact Sb.app0 | apply Sb.keep | apply Sb.keepApp | apply Sb.cons | apply Sb.app))) (rd_load1 rfl (hlo.mono (by intro z hz; simp [hz]))) rfl (by kernel_rfl) ?_
      refine xm_take 6 (m' := 127) rfl (by kernel_rfl) (by first | exact Sb.refl | exact Sb.nil | (repeat (first | exact Sb.nil | exact Sb.refl | exact Sb.app0 | apply Sb.keep | apply Sb.keepApp | apply Sb.cons | apply Sb.app))) (rd_not rfl) rfl (by kernel_rfl) ?_
      refine xm_take 7 (m' := 255) rfl (by kernel_rfl) (by first | exact Sb.refl | exact Sb.nil | (repeat (first | exact Sb.nil | exact Sb.refl | exact Sb.app0 | apply Sb.keep | apply Sb.keepApp | apply Sb.cons | apply Sb.app))) (rd_move rfl) rfl (by kernel_rfl) ?_
      refine xm_split 20 rfl (fun hz2 => ?_) (fun hz2 => ?_)
      refine xm_gtake 8 (m' := 511) rfl (by kernel_rfl) (by first | exact Sb.refl | exact Sb.nil | (repeat (first | exact Sb.nil | exact Sb.refl | exact Sb.app0 | apply Sb.keep | apply Sb.keepApp | apply Sb.cons | apply Sb.app))) rfl rfl (rd_move rfl) rfl (by kernel_rfl) ?_
      refine xm_gtake 9 (m' := 1023) rfl (by kernel_rfl) (by first | exact Sb.refl | exact Sb.nil | (repeat (first | exact Sb.nil | exact Sb.refl | exact Sb.app0 | apply Sb.keep | apply Sb.keepApp | apply Sb.cons | apply Sb.app))) rfl rfl (rd_gtr rfl rfl) rfl (by kernel_rfl) ?_
      refine xm_gtake 10 (m' := 2047) rfl (by kernel_rfl) (by first | exact Sb.refl | exact Sb.nil | (repeat (first | exact Sb.nil | exact Sb.refl | exact Sb.app0 | apply Sb.keep | apply Sb.keepApp | apply Sb.cons | apply Sb.app))) rfl rfl (rd_move rfl) rfl (by kernel_rfl) ?_
      refine xm_dec 23 rfl (fun hz3 => ?_) (fun hz3 => ?_)
      refine xm_gskip 11 (m' := 4095) rfl (by kernel_rfl) (by first | exact Sb.refl | exact Sb.nil | (repeat (first | exact Sb.nil | exact Sb.refl | exact Sb.app0 | apply Sb.keep | apply Sb.keepApp | apply Sb.cons | apply Sb.app))) rfl rfl rfl rfl (by kernel_rfl) ?_
      refine xm_gskip 12 (m' := 8191) rfl (by kernel_rfl) (by first | exact Sb.refl | exact Sb.nil | (repeat (first | exact Sb.nil | exact Sb.refl | exact Sb.app0 | apply Sb.keep | apply Sb.keepApp | apply Sb.cons | apply Sb.app))) rfl rfl rfl rfl (by kernel_rfl) ?_
      refine xm_gtake 13 (m' := 16383) rfl (by kernel_rfl) (by first | exact Sb.refl | exact Sb.nil | (repeat (first | exact Sb.nil | exact Sb.refl | exact Sb.app0 | apply Sb.keep | apply Sb.keepApp | apply Sb.cons | apply Sb.app))) rfl rfl (rd_pickt rfl rfl) rfl (by kernel_rfl) ?_
      refine xm_take 14 (m' := 32767) rfl (by kernel_rfl) (by first | exact Sb.refl | exact Sb.nil | (repeat (first | exact Sb.nil | exact Sb.refl | exact Sb.app0 | apply Sb.keep | apply Sb.keepApp | apply Sb.cons | apply Sb.app))) (rd_pickt rfl rfl) rfl (by kernel_rfl) ?_
      refine xm_take 15 (m' := 65535) rfl (by kernel_rfl) (by first | exact Sb.refl | exact Sb.nil | (repeat (first | exact Sb.nil | exact Sb.refl | exact Sb.app0 | apply Sb.keep | apply Sb.keepApp | apply Sb.cons | apply Sb.app))) (rd_move rfl) rfl (by kernel_rfl) ?_
      refine xm_gtake 16 (m' := 131071) rfl (by kernel_rfl) (by first | exact Sb.refl | exact Sb.nil | (repeat (first | exact Sb.nil | exact Sb.refl | exact Sb.app0 | apply Sb.keep | apply Sb.keepApp | apply Sb.cons | apply Sb.app))) rfl rfl (rd_move rfl) rfl (by kernel_rfl) ?_
      refine xm_gtake 17 (m' := 262143) rfl (by kernel_rfl) (by first | exact Sb.refl | exact Sb.nil | (repeat (first | exact Sb.nil | exact Sb.refl | exact Sb.app0 | apply Sb.keep | apply Sb.keepApp | apply Sb.cons | apply Sb.app))) rfl rfl (rd_move rfl) rfl (by kernel_rfl) ?_
      refine xm_gtake 18 (m' := 524287) rfl (by kernel_rfl) (by first | exact Sb.refl | exact Sb.nil | (repeat (first | exact Sb.nil | exact Sb.refl | exact Sb.app0 | apply Sb.keep | apply Sb.keepApp | apply Sb.cons | apply Sb.app))) rfl rfl (rd_indexAddr rfl rfl (by omega) (by omega)) rfl (by kernel_rfl) ?_
      refine xm_gtake 19 (m' := 1048575) rfl (by kernel_rfl) (by first | exact Sb.refl | exact Sb.nil | (repeat (first | exact Sb.nil | exact Sb.refl | exact Sb.app0 | apply Sb.keep | apply Sb.keepApp | apply Sb.cons | apply Sb.app))) rfl rfl (rd_fieldAddr rfl) rfl (by kernel_rfl) ?_
      refine xm_gtake 20 (m' := 2097151) rfl (by kernel_rfl) (by first | exact Sb.refl | exact Sb.nil | (repeat (first | exact Sb.nil | exact Sb.refl | exact Sb.app0 | apply Sb.keep | apply Sb.keepApp | apply Sb.cons | apply Sb.app))) rfl rfl (rd_fieldAddr rfl) rfl (by kernel_rfl) ?_
      refine xm_gtake 21 (m' := 4194303) rfl (by kernel_rfl) (by first | exact Sb.refl | exact Sb.nil | (repeat (first | exact Sb.nil | exact Sb.refl | exact Sb.app0 | apply Sb.keep | apply Sb.keepApp | apply Sb.cons | apply Sb.app))) rfl rfl (rd_fieldAddr rfl) rfl (by kernel_rfl) ?_
      refine xm_gtake 22 (m' := 8388607) rfl (by kernel_rfl) (by first | exact Sb.refl | exact Sb.nil | (repeat (first | exact Sb.nil | exact Sb.refl | exact Sb.app0 | apply Sb.keep | apply Sb.keepApp | apply Sb.cons | apply Sb.app))) rfl rfl (rd_load1 rfl (hke.mono (by intro z hz; simp [hz]))) rfl (by kernel_rfl) ?_
      refine xm_take 23 (m' := 16777215) rfl (by kernel_rfl) (by first | exact Sb.refl | exact Sb.nil | (repeat (first | exact Sb.nil | exact Sb.refl | exact Sb.app0 | apply Sb.keep | apply Sb.keepApp | apply Sb.cons | apply Sb.app))) (rd_pickt rfl rfl) rfl (by kernel_rfl) ?_
      refine xm_take 24 (m' := 33554431) rfl (by kernel_rfl) (by first | exact Sb.refl | exact Sb.nil | (repeat (first | exact Sb.nil | exact Sb.refl | exact Sb.app0 | apply Sb.keep | apply Sb.keepApp | apply Sb.cons | apply Sb.app))) (rd_move rfl) rfl (by kernel_rfl) ?_
      refine xm_split 37 rfl (fun hz4 => ?_) (fun hz4 => ?_)
      refine xm_gtake 25 (m' := 67108863) rfl (by kernel_rfl) (by first | exact Sb.refl | exact Sb.nil | (repeat (first | exact Sb.nil | exact Sb.refl | exact Sb.app0 | apply Sb.keep | apply Sb.keepApp | apply Sb.cons | apply Sb.app))) rfl rfl (rd_move rfl) rfl (by kernel_rfl) ?_
      refine xm_gtake 26 (m' := 134217727) rfl (by kernel_rfl) (by first | exact Sb.refl | exact Sb.nil | (repeat (first | exact Sb.nil | exact Sb.refl | exact Sb.app0 | apply Sb.keep | apply Sb.keepApp | apply Sb.cons | apply Sb.app))) rfl rfl (rd_move rfl) rfl (by kernel_rfl) ?_
      refine xm_gtake 27 (m' := 268435455) rfl (by kernel_rfl) (by first | exact Sb.refl | exact Sb.nil | (repeat (first | exact Sb.nil | exact Sb.refl | exact Sb.app0 | apply Sb.keep | apply Sb.keepApp | apply Sb.cons | apply Sb.app))) rfl rfl (rd_indexAddr rfl rfl (by omega) (by omega)) rfl (by kernel_rfl) ?_
      refine xm_gtake 28 (m' := 536870911) rfl (by kernel_rfl) (by first | exact Sb.refl | exact Sb.nil | (repeat (first | exact Sb.nil | exact Sb.refl | exact Sb.app0 | apply Sb.keep | apply Sb.keepApp | apply Sb.cons | apply Sb.app))) rfl rfl (rd_fieldAddr rfl) rfl (by kernel_rfl) ?_
      refine xm_gtake 29 (m' := 1073741823) rfl (by kernel_rfl) (by first | exact Sb.refl | exact Sb.nil | (repeat (first | exact Sb.nil | exact Sb.refl | exact Sb.app0 | apply Sb.keep | apply Sb.keepApp | apply Sb.cons | apply Sb.app))) rfl rfl (rd_load1 rfl (hg.mono (by intro z hz; simp [hz]))) rfl (by kernel_rfl) ?_
      refine xm_gtake 30 (m' := 2147483647) rfl (by kernel_rfl) (by first | exact Sb.refl | exact Sb.nil | (repeat (first | exact Sb.nil | exact Sb.refl | exact Sb.app0 | apply Sb.keep | apply Sb.keepApp | apply Sb.cons | apply Sb.app))) rfl rfl (rd_move rfl) rfl (by kernel_rfl) ?_
      refine xm_gone 31 (m' := 4294967295) rfl (by kernel_rfl) rfl rfl rfl (by kernel_rfl) (ef_call rfl (XF.mono (xf_llat (some ⟨b, o, none⟩) n c es hn (hr0.mono (by intro z hz; simp [hz])) hm) ?_))
      rintro v L' ⟨rfl, rfl⟩
      refine ⟨(by first | exact Sb.refl | exact Sb.nil | (repeat (first | exact Sb.nil | exact Sb.refl | exact Sb.app0 | apply Sb.keep | apply Sb.keepApp | apply Sb.cons | apply Sb.app))), ?_⟩
      refine xm_gtake 32 (m' := 8589934591) rfl (by kernel_rfl) (by first | exact Sb.refl | exact Sb.nil | (repeat (first | exact Sb.nil | exact Sb.refl | exact Sb.app0 | apply Sb.keep | apply Sb.keepApp | apply Sb.cons | apply Sb.app))) rfl rfl (rd_eql rfl rfl) rfl (by kernel_rfl) ?_
      refine xm_take 33 (m' := 17179869183) rfl (by kernel_rfl) (by first | exact Sb.refl | exact Sb.nil | (repeat (first | exact Sb.nil | exact Sb.refl | exact Sb.app0 | apply Sb.keep | apply Sb.keepApp | apply Sb.cons | apply Sb.app))) (rd_pickt rfl rfl) rfl (by kernel_rfl) ?_
      refine xm_done (by kernel_rfl) ?_
      refine xq_seq ?_
      refine xc_dec rfl (fun hz5 => ?_) (fun hz5 => ?_)
      refine xc_seq ?_
      refine xc_region ?_
      refine xo_rd (rd_move rfl) rfl ?_
      refine xo_rd (rd_move rfl) rfl ?_
      refine xo_rd (rd_indexAddr rfl rfl (by omega) (by omega)) rfl ?_
      refine xo_rd (rd_fieldAddr rfl) rfl ?_
      refine xo_rd (rd_fieldAddr rfl) rfl ?_
      refine xo_rd (rd_loadA (vs := e.i.f.enc) rfl rfl (fun j u hj => (hcF j u hj).mono (by intro z hz; simp [hz]))) rfl ?_
      refine xo_ef rfl (ef_storeB [] _ rfl rfl (by first | rfl | assumption) rfl rfl rfl ?_)
      refine xo_rd (rd_assign rfl) rfl ?_
      refine xo_nil ?_
      refine xq_seq ?_
      refine xc_ret ?_
      refine xq_block_ret ?_
      refine xq_then_ret ?_
      refine xq_then_ret ?_
      refine xq_block_ret ?_
      refine xq_then_ret ?_
      rotate_left
      refine xc_skip ?_
      refine xq_block ?_
      refine xq_seq ?_
      refine xc_region ?_
      refine xo_rd (rd_move rfl) rfl ?_
      refine xo_rd (rd_addn rfl rfl (by omega) (by omega)) rfl ?_
      refine xo_rd (rd_assign rfl) rfl ?_
      refine xo_nil ?_
      rotate_left
      refine xm_gskip 25 (m' := 67108863) rfl (by kernel_rfl) (by first | exact Sb.refl | exact Sb.nil | (repeat (first | exact Sb.nil | exact Sb.refl | exact Sb.app0 | apply Sb.keep | apply Sb.keepApp | apply Sb.cons | apply Sb.app))) rfl rfl rfl rfl (by kernel_rfl) ?_
      refine xm_gskip 26 (m' := 134217727) rfl (by kernel_rfl) (by first | exact Sb.refl | exact Sb.nil | (repeat (first | exact Sb.nil | exact Sb.refl | exact Sb.app0 | apply Sb.keep | apply Sb.keepApp | apply Sb.cons | apply Sb.app))) rfl rfl rfl rfl (by kernel_rfl) ?_
      refine xm_gskip 27 (m' := 268435455) rfl (by kernel_rfl) (by first | exact Sb.refl | exact Sb.nil | (repeat (first | exact Sb.nil | exact Sb.refl | exact Sb.app0 | apply Sb.keep | apply Sb.keepApp | apply Sb.cons | apply Sb.app))) rfl rfl rfl rfl (by kernel_rfl) ?_
      refine xm_gskip 28 (m' := 536870911) rfl (by kernel_rfl) (by first | exact Sb.refl | exact Sb.nil | (repeat (first | exact Sb.nil | exact Sb.refl | exact Sb.app0 | apply Sb.keep | apply Sb.keepApp | apply Sb.cons | apply Sb.app))) rfl rfl rfl rfl (by kernel_rfl) ?_
      refine xm_gskip 29 (m' := 1073741823) rfl (by kernel_rfl) (by first | exact Sb.refl | exact Sb.nil | (repeat (first | exact Sb.nil | exact Sb.refl | exact Sb.app0 | apply Sb.keep | apply Sb.keepApp | apply Sb.cons | apply Sb.app))) rfl rfl rfl rfl (by kernel_rfl) ?_
      refine xm_gskip 30 (m' := 2147483647) rfl (by kernel_rfl) (by first | exact Sb.refl | exact Sb.nil | (repeat (first | exact Sb.nil | exact Sb.refl | exact Sb.app0 | apply Sb.keep | apply Sb.keepApp | apply Sb.cons | apply Sb.app))) rfl rfl rfl rfl (by kernel_rfl) ?_
      refine xm_gskip 31 (m' := 4294967295) rfl (by kernel_rfl) (by first | exact Sb.refl | exact Sb.nil | (repeat (first | exact Sb.nil | exact Sb.refl | exact Sb.app0 | apply Sb.keep | apply Sb.keepApp | apply Sb.cons | apply Sb.app))) rfl rfl rfl rfl (by kernel_rfl) ?_
      refine xm_gskip 32 (m' := 8589934591) rfl (by kernel_rfl) (by first | exact Sb.refl | exact Sb.nil | (repeat (first | exact Sb.nil | exact Sb.refl | exact Sb.app0 | apply Sb.keep | apply Sb.keepApp | apply Sb.cons | apply Sb.app))) rfl rfl rfl rfl (by kernel_rfl) ?_
      refine xm_take 33 (m' := 17179869183) rfl (by kernel_rfl) (by first | exact Sb.refl | exact Sb.nil | (repeat (first | exact Sb.nil | exact Sb.refl | exact Sb.app0 | apply Sb.keep | apply Sb.keepApp | apply Sb.cons | apply Sb.app))) (rd_pickf rfl rfl) rfl (by kernel_rfl) ?_
      refine xm_done (by kernel_rfl) ?_
      refine xq_seq ?_
      refine xc_condf rfl ?_
      refine xc_skip ?_
      refine xq_block ?_
      refine xq_seq ?_
      refine xc_region ?_
      refine xo_rd (rd_move rfl) rfl ?_
      refine xo_rd (rd_addn rfl rfl (by omega) (by omega)) rfl ?_
      refine xo_rd (rd_assign rfl) rfl ?_
      refine xo_nil ?_
      rotate_left
      refine xm_gtake 11 (m' := 4095) rfl (by kernel_rfl) (by first | exact Sb.refl | exact Sb.nil | (repeat (first | exact Sb.nil | exact Sb.refl | exact Sb.app0 | apply Sb.keep | apply Sb.keepApp | apply Sb.cons | apply Sb.app))) rfl rfl (rd_move rfl) rfl (by kernel_rfl) ?_
      refine xm_gtake 12 (m' := 8191) rfl (by kernel_rfl) (by first | exact Sb.refl | exact Sb.nil | (repeat (first | exact Sb.nil | exact Sb.refl | exact Sb.app0 | apply Sb.keep | apply Sb.keepApp | apply Sb.cons | apply Sb.app))) rfl rfl (rd_not rfl) rfl (by kernel_rfl) ?_
      refine xm_gtake 13 (m' := 16383) rfl (by kernel_rfl) (by first | exact Sb.refl | exact Sb.nil | (repeat (first | exact Sb.nil | exact Sb.refl | exact Sb.app0 | apply Sb.keep | apply Sb.keepApp | apply Sb.cons | apply Sb.app))) rfl rfl (rd_pickf rfl rfl) rfl (by kernel_rfl) ?_
      refine xm_take 14 (m' := 32767) rfl (by kernel_rfl) (by first | exact Sb.refl | exact Sb.nil | (repeat (first | exact Sb.nil | exact Sb.refl | exact Sb.app0 | apply Sb.keep | apply Sb.keepApp | apply Sb.cons | apply Sb.app))) (rd_pickt rfl rfl) rfl (by kernel_rfl) ?_
      refine xm_take 15 (m' := 65535) rfl (by kernel_rfl) (by first | exact Sb.refl | exact Sb.nil | (repeat (first | exact Sb.nil | exact Sb.refl | exact Sb.app0 | apply Sb.keep | apply Sb.keepApp | apply Sb.cons | apply Sb.app))) (rd_move rfl) rfl (by kernel_rfl) ?_
      refine xm_split 28 rfl (fun hz6 => ?_) (fun hz6 => ?_)
      refine xm_gtake 16 (m' := 131071) rfl (by kernel_rfl) (by first | exact Sb.refl | exact Sb.nil | (repeat (first | exact Sb.nil | exact Sb.refl | exact Sb.app0 | apply Sb.keep | apply Sb.keepApp | apply Sb.cons | apply Sb.app))) rfl rfl (rd_move rfl) rfl (by kernel_rfl) ?_
      refine xm_gtake 17 (m' := 262143) rfl (by kernel_rfl) (by first | exact Sb.refl | exact Sb.nil | (repeat (first | exact Sb.nil | exact Sb.refl | exact Sb.app0 | apply Sb.keep | apply Sb.keepApp | apply Sb.cons | apply Sb.app))) rfl rfl (rd_move rfl) rfl (by kernel_rfl) ?_
      refine xm_gtake 18 (m' := 524287) rfl (by kernel_rfl) (by first | exact Sb.refl | exact Sb.nil | (repeat (first | exact Sb.nil | exact Sb.refl | exact Sb.app0 | apply Sb.keep | apply Sb.keepApp | apply Sb.cons | apply Sb.app))) rfl rfl (rd_indexAddr rfl rfl (by omega) (by omega)) rfl (by kernel_rfl) ?_
      refine xm_gtake 19 (m' := 1048575) rfl (by kernel_rfl) (by first | exact Sb.refl | exact Sb.nil | (repeat (first | exact Sb.nil | exact Sb.refl | exact Sb.app0 | apply Sb.keep | apply Sb.keepApp | apply Sb.cons | apply Sb.app))) rfl rfl (rd_fieldAddr rfl) rfl (by kernel_rfl) ?_
      refine xm_gtake 20 (m' := 2097151) rfl (by kernel_rfl) (by first | exact Sb.refl | exact Sb.nil | (repeat (first | exact Sb.nil | exact Sb.refl | exact Sb.app0 | apply Sb.keep | apply Sb.keepApp | apply Sb.cons | apply Sb.app))) rfl rfl (rd_fieldAddr rfl) rfl (by kernel_rfl) ?_
      refine xm_gtake 21 (m' := 4194303) rfl (by kernel_rfl) (by first | exact Sb.refl | exact Sb.nil | (repeat (first | exact Sb.nil | exact Sb.refl | exact Sb.app0 | apply Sb.keep | apply Sb.keepApp | apply Sb.cons | apply Sb.app))) rfl rfl (rd_fieldAddr rfl) rfl (by kernel_rfl) ?_
      refine xm_gtake 22 (m' := 8388607) rfl (by kernel_rfl) (by first | exact Sb.refl | exact Sb.nil | (repeat (first | exact Sb.nil | exact Sb.refl | exact Sb.app0 | apply Sb.keep | apply Sb.keepApp | apply Sb.cons | apply Sb.app))) rfl rfl (rd_load1 rfl (hke.mono (by intro z hz; simp [hz]))) rfl (by kernel_rfl) ?_
      refine xm_take 23 (m' := 16777215) rfl (by kernel_rfl) (by first | exact Sb.refl | exact Sb.nil | (repeat (first | exact Sb.nil | exact Sb.refl | exact Sb.app0 | apply Sb.keep | apply Sb.keepApp | apply Sb.cons | apply Sb.app))) (rd_pickt rfl rfl) rfl (by kernel_rfl) ?_
      refine xm_take 24 (m' := 33554431) rfl (by kernel_rfl) (by first | exact Sb.refl | exact Sb.nil | (repeat (first | exact Sb.nil | exact Sb.refl | exact Sb.app0 | apply Sb.keep | apply Sb.keepApp | apply Sb.cons | apply Sb.app))) (rd_move rfl) rfl (by kernel_rfl) ?_
      refine xm_split 37 rfl (fun hz7 => ?_) (fun hz7 => ?_)
      refine xm_gtake 25 (m' := 67108863) rfl (by kernel_rfl) (by first | exact Sb.refl | exact Sb.nil | (repeat (first | exact Sb.nil | exact Sb.refl | exact Sb.app0 | apply Sb.keep | apply Sb.keepApp | apply Sb.cons | apply Sb.app))) rfl rfl (rd_move rfl) rfl (by kernel_rfl) ?_
      refine xm_gtake 26 (m' := 134217727) rfl (by kernel_rfl) (by first | exact Sb.refl | exact Sb.nil | (repeat (first | exact Sb.nil | exact Sb.refl | exact Sb.app0 | apply Sb.keep | apply Sb.keepApp | apply Sb.cons | apply Sb.app))) rfl rfl (rd_move rfl) rfl (by kernel_rfl) ?_
      refine xm_gtake 27 (m' := 268435455) rfl (by kernel_rfl) (by first | exact Sb.refl | exact Sb.nil | (repeat (first | exact Sb.nil | exact Sb.refl | exact Sb.app0 | apply Sb.keep | apply Sb.keepApp | apply Sb.cons | apply Sb.app))) rfl rfl (rd_indexAddr rfl rfl (by omega) (by omega)) rfl (by kernel_rfl) ?_
      refine xm_gtake 28 (m' := 536870911) rfl (by kernel_rfl) (by first | exact Sb.refl | exact Sb.nil | (repeat (first | exact Sb.nil | exact Sb.refl | exact Sb.app0 | apply Sb.keep | apply Sb.keepApp | apply Sb.cons | apply Sb.app))) rfl rfl (rd_fieldAddr rfl) rfl (by kernel_rfl) ?_
      refine xm_gtake 29 (m' := 1073741823) rfl (by kernel_rfl) (by first | exact Sb.refl | exact Sb.nil | (repeat (first | exact Sb.nil | exact Sb.refl | exact Sb.app0 | apply Sb.keep | apply Sb.keepApp | apply Sb.cons | apply Sb.app))) rfl rfl (rd_load1 rfl (hg.mono (by intro z hz; simp [hz]))) rfl (by kernel_rfl) ?_
      refine xm_gtake 30 (m' := 2147483647) rfl (by kernel_rfl) (by first | exact Sb.refl | exact Sb.nil | (repeat (first | exact Sb.nil | exact Sb.refl | exact Sb.app0 | apply Sb.keep | apply Sb.keepApp | apply Sb.cons | apply Sb.app))) rfl rfl (rd_move rfl) rfl (by kernel_rfl) ?_
      refine xm_gone 31 (m' := 4294967295) rfl (by kernel_rfl) rfl rfl rfl (by kernel_rfl) (ef_call rfl (XF.mono (xf_llat (some ⟨b, o, none⟩) n c es hn (hr0.mono (by intro z hz; simp [hz])) hm) ?_))
      rintro v L' ⟨rfl, rfl⟩
      refine ⟨(by first | exact Sb.refl | exact Sb.nil | (repeat (first | exact Sb.nil | exact Sb.refl | exact Sb.app0 | apply Sb.keep | apply Sb.keepApp | apply Sb.cons | apply Sb.app))), ?_⟩
      refine xm_gtake 32 (m' := 8589934591) rfl (by kernel_rfl) (by first | exact Sb.refl | exact Sb.nil | (repeat (first | exact Sb.nil | exact Sb.refl | exact Sb.app0 | apply Sb.keep | apply Sb.keepApp | apply Sb.cons | apply Sb.app))) rfl rfl (rd_eql rfl rfl) rfl (by kernel_rfl) ?_
      refine xm_take 33 (m' := 17179869183) rfl (by kernel_rfl) (by first | exact Sb.refl | exact Sb.nil | (repeat (first | exact Sb.nil | exact Sb.refl | exact Sb.app0 | apply Sb.keep | apply Sb.keepApp | apply Sb.cons | apply Sb.app))) (rd_pickt rfl rfl) rfl (by kernel_rfl) ?_
      refine xm_done (by kernel_rfl) ?_
      refine xq_seq ?_
      refine xc_dec rfl (fun hz8 => ?_) (fun hz8 => ?_)
      refine xc_seq ?_
      refine xc_region ?_
      refine xo_rd (rd_move rfl) rfl ?_
      refine xo_rd (rd_move rfl) rfl ?_
      refine xo_rd (rd_indexAddr rfl rfl (by omega) (by omega)) rfl ?_
      refine xo_rd (rd_fieldAddr rfl) rfl ?_
      refine xo_rd (rd_fieldAddr rfl) rfl ?_
      refine xo_rd (rd_loadA (vs := e.i.f.enc) rfl rfl (fun j u hj => (hcF j u hj).mono (by intro z hz; simp [hz]))) rfl ?_
      refine xo_ef rfl (ef_storeB [] _ rfl rfl (by first | rfl | assumption) rfl rfl rfl ?_)
      refine xo_rd (rd_assign rfl) rfl ?_
      refine xo_nil ?_
      refine xq_seq ?_
      refine xc_ret ?_
      refine xq_block_ret ?_
      refine xq_then_ret ?_
      refine xq_then_ret ?_
      refine xq_block_ret ?_
      refine xq_then_ret ?_
      rotate_left
      refine xc_skip ?_
      refine xq_block ?_
      refine xq_seq ?_
      refine xc_region ?_
      refine xo_rd (rd_move rfl) rfl ?_
      refine xo_rd (rd_addn rfl rfl (by omega) (by omega)) rfl ?_
      refine xo_rd (rd_assign rfl) rfl ?_
      refine xo_nil ?_
      rotate_left
      refine xm_gskip 25 (m' := 67108863) rfl (by kernel_rfl) (by first | exact Sb.refl | exact Sb.nil | (repeat (first | exact Sb.nil | exact Sb.refl | exact Sb.app0 | apply Sb.keep | apply Sb.keepApp | apply Sb.cons | apply Sb.app))) rfl rfl rfl rfl (by kernel_rfl) ?_
      refine xm_gskip 26 (m' := 134217727) rfl (by kernel_rfl) (by first | exact Sb.refl | exact Sb.nil | (repeat (first | exact Sb.nil | exact Sb.refl | exact Sb.app0 | apply Sb.keep | apply Sb.keepApp | apply Sb.cons | apply Sb.app))) rfl rfl rfl rfl (by kernel_rfl) ?_
      refine xm_gskip 27 (m' := 268435455) rfl (by kernel_rfl) (by first | exact Sb.refl | exact Sb.nil | (repeat (first | exact Sb.nil | exact Sb.refl | exact Sb.app0 | apply Sb.keep | apply Sb.keepApp | apply Sb.cons | apply Sb.app))) rfl rfl rfl rfl (by kernel_rfl) ?_
      refine xm_gskip 28 (m' := 536870911) rfl (by kernel_rfl) (by first | exact Sb.refl | exact Sb.nil | (repeat (first | exact Sb.nil | exact Sb.refl | exact Sb.app0 | apply Sb.keep | apply Sb.keepApp | apply Sb.cons | apply Sb.app))) rfl rfl rfl rfl (by kernel_rfl) ?_
      refine xm_gskip 29 (m' := 1073741823) rfl (by kernel_rfl) (by first | exact Sb.refl | exact Sb.nil | (repeat (first | exact Sb.nil | exact Sb.refl | exact Sb.app0 | apply Sb.keep | apply Sb.keepApp | apply Sb.cons | apply Sb.app))) rfl rfl rfl rfl (by kernel_rfl) ?_
      refine xm_gskip 30 (m' := 2147483647) rfl (by kernel_rfl) (by first | exact Sb.refl | exact Sb.nil | (repeat (first | exact Sb.nil | exact Sb.refl | exact Sb.app0 | apply Sb.keep | apply Sb.keepApp | apply Sb.cons | apply Sb.app))) rfl rfl rfl rfl (by kernel_rfl) ?_
      refine xm_gskip 31 (m' := 4294967295) rfl (by kernel_rfl) (by first | exact Sb.refl | exact Sb.nil | (repeat (first | exact Sb.nil | exact Sb.refl | exact Sb.app0 | apply Sb.keep | apply Sb.keepApp | apply Sb.cons | apply Sb.app))) rfl rfl rfl rfl (by kernel_rfl) ?_
      refine xm_gskip 32 (m' := 8589934591) rfl (by kernel_rfl) (by first | exact Sb.refl | exact Sb.nil | (repeat (first | exact Sb.nil | exact Sb.refl | exact Sb.app0 | apply Sb.keep | apply Sb.keepApp | apply Sb.cons | apply Sb.app))) rfl rfl rfl rfl (by kernel_rfl) ?_
      refine xm_take 33 (m' := 17179869183) rfl (by kernel_rfl) (by first | exact Sb.refl | exact Sb.nil | (repeat (first | exact Sb.nil | exact Sb.refl | exact Sb.app0 | apply Sb.keep | apply Sb.keepApp | apply Sb.cons | apply Sb.app))) (rd_pickf rfl rfl) rfl (by kernel_rfl) ?_
      refine xm_done (by kernel_rfl) ?_
      refine xq_seq ?_
      refine xc_condf rfl ?_
      refine xc_skip ?_
      refine xq_block ?_
      refine xq_seq ?_
      refine xc_region ?_
      refine xo_rd (rd_move rfl) rfl ?_
      refine xo_rd (rd_addn rfl rfl (by omega) (by omega)) rfl ?_
      refine xo_rd (rd_assign rfl) rfl ?_
      refine xo_nil ?_
      rotate_left
      refine xm_gskip 16 (m' := 131071) rfl (by kernel_rfl) (by first | exact Sb.refl | exact Sb.nil | (repeat (first | exact Sb.nil | exact Sb.refl | exact Sb.app0 | apply Sb.keep | apply Sb.keepApp | apply Sb.cons | apply Sb.app))) rfl rfl rfl rfl (by kernel_rfl) ?_
      refine xm_gskip 17 (m' := 262143) rfl (by kernel_rfl) (by first | exact Sb.refl | exact Sb.nil | (repeat (first | exact Sb.nil | exact Sb.refl | exact Sb.app0 | apply Sb.keep | apply Sb.keepApp | apply Sb.cons | apply Sb.app))) rfl rfl rfl rfl (by kernel_rfl) ?_
      refine xm_gskip 18 (m' := 524287) rfl (by kernel_rfl) (by first | exact Sb.refl | exact Sb.nil | (repeat (first | exact Sb.nil | exact Sb.refl | exact Sb.app0 | apply Sb.keep | apply Sb.keepApp | apply Sb.cons | apply Sb.app))) rfl rfl rfl rfl (by kernel_rfl) ?_
      refine xm_gskip 19 (m' := 1048575) rfl (by kernel_rfl) (by first | exact Sb.refl | exact Sb.nil | (repeat (first | exact Sb.nil | exact Sb.refl | exact Sb.app0 | apply Sb.keep | apply Sb.keepApp | apply Sb.cons | apply Sb.app))) rfl rfl rfl rfl (by kernel_rfl) ?_
      refine xm_gskip 20 (m' := 2097151) rfl (by kernel_rfl) (by first | exact Sb.refl | exact Sb.nil | (repeat (first | exact Sb.nil | exact Sb.refl | exact Sb.app0 | apply Sb.keep | apply Sb.keepApp | apply Sb.cons | apply Sb.app))) rfl rfl rfl rfl (by kernel_rfl) ?_
      refine xm_gskip 21 (m' := 4194303) rfl (by kernel_rfl) (by first | exact Sb.refl | exact Sb.nil | (repeat (first | exact Sb.nil | exact Sb.refl | exact Sb.app0 | apply Sb.keep | apply Sb.keepApp | apply Sb.cons | apply Sb.app))) rfl rfl rfl rfl (by kernel_rfl) ?_
      refine xm_gskip 22 (m' := 8388607) rfl (by kernel_rfl) (by first | exact Sb.refl | exact Sb.nil | (repeat (first | exact Sb.nil | exact Sb.refl | exact Sb.app0 | apply Sb.keep | apply Sb.keepApp | apply Sb.cons | apply Sb.app))) rfl rfl rfl rfl (by kernel_rfl) ?_
      refine xm_take 23 (m' := 16777215) rfl (by kernel_rfl) (by first | exact Sb.refl | exact Sb.nil | (repeat (first | exact Sb.nil | exact Sb.refl | exact Sb.app0 | apply Sb.keep | apply Sb.keepApp | apply Sb.cons | apply Sb.app))) (rd_pickf rfl rfl) rfl (by kernel_rfl) ?_
      refine xm_take 24 (m' := 33554431) rfl (by kernel_rfl) (by first | exact Sb.refl | exact Sb.nil | (repeat (first | exact Sb.nil | exact Sb.refl | exact Sb.app0 | apply Sb.keep | apply Sb.keepApp | apply Sb.cons | apply Sb.app))) (rd_move rfl) rfl (by kernel_rfl) ?_
      refine xm_gskip 25 (m' := 67108863) rfl (by kernel_rfl) (by first | exact Sb.refl | exact Sb.nil | (repeat (first | exact Sb.nil | exact Sb.refl | exact Sb.app0 | apply Sb.keep | apply Sb.keepApp | apply Sb.cons | apply Sb.app))) rfl rfl rfl rfl (by kernel_rfl) ?_
      refine xm_gskip 26 (m' := 134217727) rfl (by kernel_rfl) (by first | exact Sb.refl | exact Sb.nil | (repeat (first | exact Sb.nil | exact Sb.refl | exact Sb.app0 | apply Sb.keep | apply Sb.keepApp | apply Sb.cons | apply Sb.app))) rfl rfl rfl rfl (by kernel_rfl) ?_
      refine xm_gskip 27 (m' := 268435455) rfl (by kernel_rfl) (by first | exact Sb.refl | exact Sb.nil | (repeat (first | exact Sb.nil | exact Sb.refl | exact Sb.app0 | apply Sb.keep | apply Sb.keepApp | apply Sb.cons | apply Sb.app))) rfl rfl rfl rfl (by kernel_rfl) ?_
      refine xm_gskip 28 (m' := 536870911) rfl (by kernel_rfl) (by first | exact Sb.refl | exact Sb.nil | (repeat (first | exact Sb.nil | exact Sb.refl | exact Sb.app0 | apply Sb.keep | apply Sb.keepApp | apply Sb.cons | apply Sb.app))) rfl rfl rfl rfl (by kernel_rfl) ?_
      refine xm_gskip 29 (m' := 1073741823) rfl (by kernel_rfl) (by first | exact Sb.refl | exact Sb.nil | (repeat (first | exact Sb.nil | exact Sb.refl | exact Sb.app0 | apply Sb.keep | apply Sb.keepApp | apply Sb.cons | apply Sb.app))) rfl rfl rfl rfl (by kernel_rfl) ?_
      refine xm_gskip 30 (m' := 2147483647) rfl (by kernel_rfl) (by first | exact Sb.refl | exact Sb.nil | (repeat (first | exact Sb.nil | exact Sb.refl | exact Sb.app0 | apply Sb.keep | apply Sb.keepApp | apply Sb.cons | apply Sb.app))) rfl rfl rfl rfl (by kernel_rfl) ?_
      refine xm_gskip 31 (m' := 4294967295) rfl (by kernel_rfl) (by first | exact Sb.refl | exact Sb.nil | (repeat (first | exact Sb.nil | exact Sb.refl | exact Sb.app0 | apply Sb.keep | apply Sb.keepApp | apply Sb.cons | apply Sb.app))) rfl rfl rfl rfl (by kernel_rfl) ?_
      refine xm_gskip 32 (m' := 8589934591) rfl (by kernel_rfl) (by first | exact Sb.refl | exact Sb.nil | (repeat (first | exact Sb.nil | exact Sb.refl | exact Sb.app0 | apply Sb.keep | apply Sb.keepApp | apply Sb.cons | apply Sb.app))) rfl rfl rfl rfl (by kernel_rfl) ?_
      refine xm_take 33 (m' := 17179869183) rfl (by kernel_rfl) (by first | exact Sb.refl | exact Sb.nil | (repeat (first | exact Sb.nil | exact Sb.refl | exact Sb.app0 | apply Sb.keep | apply Sb.keepApp | apply Sb.cons | apply Sb.app))) (rd_pickf rfl rfl) rfl (by kernel_rfl) ?_
      refine xm_done (by kernel_rfl) ?_
      refine xq_seq ?_
      refine xc_condf rfl ?_
      refine xc_skip ?_
      refine xq_block ?_
      refine xq_seq ?_
      refine xc_region ?_
      refine xo_rd (rd_move rfl) rfl ?_
      refine xo_rd (rd_addn rfl rfl (by omega) (by omega)) rfl ?_
      refine xo_rd (rd_assign rfl) rfl ?_
      refine xo_nil ?_
      rotate_left
      refine xm_gskip 8 (m' := 511) rfl (by kernel_rfl) (by first | exact Sb.refl | exact Sb.nil | (repeat (first | exact Sb.nil | exact Sb.refl | exact Sb.app0 | apply Sb.keep | apply Sb.keepApp | apply Sb.cons | apply Sb.app))) rfl rfl rfl rfl (by kernel_rfl) ?_
      refine xm_gskip 9 (m' := 1023) rfl (by kernel_rfl) (by first | exact Sb.refl | exact Sb.nil | (repeat (first | exact Sb.nil | exact Sb.refl | exact Sb.app0 | apply Sb.keep | apply Sb.keepApp | apply Sb.cons | apply Sb.app))) rfl rfl rfl rfl (by kernel_rfl) ?_
      refine xm_gskip 10 (m' := 2047) rfl (by kernel_rfl) (by first | exact Sb.refl | exact Sb.nil | (repeat (first | exact Sb.nil | exact Sb.refl | exact Sb.app0 | apply Sb.keep | apply Sb.keepApp | apply Sb.cons | apply Sb.app))) rfl rfl rfl rfl (by kernel_rfl) ?_
      refine xm_gskipU 11 (m' := 4095) rfl (by kernel_rfl) (by first | exact Sb.refl | exact Sb.nil | (repeat (first | exact Sb.nil | exact Sb.refl | exact Sb.app0 | apply Sb.keep | apply Sb.keepApp | apply Sb.cons | apply Sb.app))) rfl rfl rfl (by kernel_rfl) ?_
      refine xm_gskipU 12 (m' := 8191) rfl (by kernel_rfl) (by first | exact Sb.refl | exact Sb.nil | (repeat (first | exact Sb.nil | exact Sb.refl | exact Sb.app0 | apply Sb.keep | apply Sb.keepApp | apply Sb.cons | apply Sb.app))) rfl rfl rfl (by kernel_rfl) ?_
      refine xm_gskip 13 (m' := 16383) rfl (by kernel_rfl) (by first | exact Sb.refl | exact Sb.nil | (repeat (first | exact Sb.nil | exact Sb.refl | exact Sb.app0 | apply Sb.keep | apply Sb.keepApp | apply Sb.cons | apply Sb.app))) rfl rfl rfl rfl (by kernel_rfl) ?_
      refine xm_take 14 (m' := 32767) rfl (by kernel_rfl) (by first | exact Sb.refl | exact Sb.nil | (repeat (first | exact Sb.nil | exact Sb.refl | exact Sb.app0 | apply Sb.keep | apply Sb.keepApp | apply Sb.cons | apply Sb.app))) (rd_pickf rfl rfl) rfl (by kernel_rfl) ?_
      refine xm_take 15 (m' := 65535) rfl (by kernel_rfl) (by first | exact Sb.refl | exact Sb.nil | (repeat (first | exact Sb.nil | exact Sb.refl | exact Sb.app0 | apply Sb.keep | apply Sb.keepApp | apply Sb.cons | apply Sb.app))) (rd_move rfl) rfl (by kernel_rfl) ?_
      refine xm_gskip 16 (m' := 131071) rfl (by kernel_rfl) (by first | exact Sb.refl | exact Sb.nil | (repeat (first | exact Sb.nil | exact Sb.refl | exact Sb.app0 | apply Sb.keep | apply Sb.keepApp | apply Sb.cons | apply Sb.app))) rfl rfl rfl rfl (by kernel_rfl) ?_
      refine xm_gskip 17 (m' := 262143) rfl (by kernel_rfl) (by first | exact Sb.refl | exact Sb.nil | (repeat (first | exact Sb.nil | exact Sb.refl | exact Sb.app0 | apply Sb.keep | apply Sb.keepApp | apply Sb.cons | apply Sb.app))) rfl rfl rfl rfl (by kernel_rfl) ?_
      refine xm_gskip 18 (m' := 524287) rfl (by kernel_rfl) (by first | exact Sb.refl | exact Sb.nil | (repeat (first | exact Sb.nil | exact Sb.refl | exact Sb.app0 | apply Sb.keep | apply Sb.keepApp | apply Sb.cons | apply Sb.app))) rfl rfl rfl rfl (by kernel_rfl) ?_
      refine xm_gskip 19 (m' := 1048575) rfl (by kernel_rfl) (by first | exact Sb.refl | exact Sb.nil | (repeat (first | exact Sb.nil | exact Sb.refl | exact Sb.app0 | apply Sb.keep | apply Sb.keepApp | apply Sb.cons | apply Sb.app))) rfl rfl rfl rfl (by kernel_rfl) ?_
      refine xm_gskip 20 (m' := 2097151) rfl (by kernel_rfl) (by first | exact Sb.refl | exact Sb.nil | (repeat (first | exact Sb.nil | exact Sb.refl | exact Sb.app0 | apply Sb.keep | apply Sb.keepApp | apply Sb.cons | apply Sb.app))) rfl rfl rfl rfl (by kernel_rfl) ?_
      refine xm_gskip 21 (m' := 4194303) rfl (by kernel_rfl) (by first | exact Sb.refl | exact Sb.nil | (repeat (first | exact Sb.nil | exact Sb.refl | exact Sb.app0 | apply Sb.keep | apply Sb.keepApp | apply Sb.cons | apply Sb.app))) rfl rfl rfl rfl (by kernel_rfl) ?_
      refine xm_gskip 22 (m' := 8388607) rfl (by kernel_rfl) (by first | exact Sb.refl | exact Sb.nil | (repeat (first | exact Sb.nil | exact Sb.refl | exact Sb.app0 | apply Sb.keep | apply Sb.keepApp | apply Sb.cons | apply Sb.app))) rfl rfl rfl rfl (by kernel_rfl) ?_
      refine xm_take 23 (m' := 16777215) rfl (by kernel_rfl) (by first | exact Sb.refl | exact Sb.nil | (repeat (first | exact Sb.nil | exact Sb.refl | exact Sb.app0 | apply Sb.keep | apply Sb.keepApp | apply Sb.cons | apply Sb.app))) (rd_pickf rfl rfl) rfl (by kernel_rfl) ?_
      refine xm_take 24 (m' := 33554431) rfl (by kernel_rfl) (by first | exact Sb.refl | exact Sb.nil | (repeat (first | exact Sb.nil | exact Sb.refl | exact Sb.app0 | apply Sb.keep | apply Sb.keepApp | apply Sb.cons | apply Sb.app))) (rd_move rfl) rfl (by kernel_rfl) ?_
      refine xm_gskip 25 (m' := 67108863) rfl (by kernel_rfl) (by first | exact Sb.refl | exact Sb.nil | (repeat (first | exact Sb.nil | exact Sb.refl | exact Sb.app0 | apply Sb.keep | apply Sb.keepApp | apply Sb.cons | apply Sb.app))) rfl rfl rfl rfl (by kernel_rfl) ?_
      refine xm_gskip 26 (m' := 134217727) rfl (by kernel_rfl) (by first | exact Sb.refl | exact Sb.nil | (repeat (first | exact Sb.nil | exact Sb.refl | exact Sb.app0 | apply Sb.keep | apply Sb.keepApp | apply Sb.cons | apply Sb.app))) rfl rfl rfl rfl (by kernel_rfl) ?_
      refine xm_gskip 27 (m' := 268435455) rfl (by kernel_rfl) (by first | exact Sb.refl | exact Sb.nil | (repeat (first | exact Sb.nil | exact Sb.refl | exact Sb.app0 | apply Sb.keep | apply Sb.keepApp | apply Sb.cons | apply Sb.app))) rfl rfl rfl rfl (by kernel_rfl) ?_
      refine xm_gskip 28 (m' := 536870911) rfl (by kernel_rfl) (by first | exact Sb.refl | exact Sb.nil | (repeat (first | exact Sb.nil | exact Sb.refl | exact Sb.app0 | apply Sb.keep | apply Sb.keepApp | apply Sb.cons | apply Sb.app))) rfl rfl rfl rfl (by kernel_rfl) ?_
      refine xm_gskip 29 (m' := 1073741823) rfl (by kernel_rfl) (by first | exact Sb.refl | exact Sb.nil | (repeat (first | exact Sb.nil | exact Sb.refl | exact Sb.app0 | apply Sb.keep | apply Sb.keepApp | apply Sb.cons | apply Sb.app))) rfl rfl rfl rfl (by kernel_rfl) ?_
      refine xm_gskip 30 (m' := 2147483647) rfl (by kernel_rfl) (by first | exact Sb.refl | exact Sb.nil | (repeat (first | exact Sb.nil | exact Sb.refl | exact Sb.app0 | apply Sb.keep | apply Sb.keepApp | apply Sb.cons | apply Sb.app))) rfl rfl rfl rfl (by kernel_rfl) ?_
      refine xm_gskip 31 (m' := 4294967295) rfl (by kernel_rfl) (by first | exact Sb.refl | exact Sb.nil | (repeat (first | exact Sb.nil | exact Sb.refl | exact Sb.app0 | apply Sb.keep | apply Sb.keepApp | apply Sb.cons | apply Sb.app))) rfl rfl rfl rfl (by kernel_rfl) ?_
      refine xm_gskip 32 (m' := 8589934591) rfl (by kernel_rfl) (by first | exact Sb.refl | exact Sb.nil | (repeat (first | exact Sb.nil | exact Sb.refl | exact Sb.app0 | apply Sb.keep | apply Sb.keepApp | apply Sb.cons | apply Sb.app))) rfl rfl rfl rfl (by kernel_rfl) ?_
      refine xm_take 33 (m' := 17179869183) rfl (by kernel_rfl) (by first | exact Sb.refl | exact Sb.nil | (repeat (first | exact Sb.nil | exact Sb.refl | exact Sb.app0 | apply Sb.keep | apply Sb.keepApp | apply Sb.cons | apply Sb.app))) (rd_pickf rfl rfl) rfl (by kernel_rfl) ?_
      refine xm_done (by kernel_rfl) ?_
      refine xq_seq ?_
      refine xc_condf rfl ?_
      refine xc_skip ?_
      refine xq_block ?_
      refine xq_seq ?_
      refine xc_region ?_
      refine xo_rd (rd_move rfl) rfl ?_
      refine xo_rd (rd_addn rfl rfl (by omega) (by omega)) rfl ?_
      refine xo_rd (rd_assign rfl) rfl ?_
      refine xo_nil ?_
      rotate_left
    all_goals first
      | refine xq_retB2 (.inl rfl) Try.results32 rfl rfl Kn.o0 rfl (List.sublist_append_right [_] _) ⟨e.i.f, true, rfl, fun _ => ?_, rfl⟩
        have hkt : keyA true bg (es.map En.a) i = true := by
          rw [hk]
          simp only [Bool.and_eq_true, Bool.or_eq_true, decide_eq_true_iff]
          exact ⟨⟨by assumption, by first | (left; omega) | (right; assumption)⟩, by assumption, by assumption⟩
        have hkk : keptA true bg (es.map En.a) = i := first_hit (by simp; omega) hkt hno
        exact ⟨by omega, e, by rw [hkk]; exact e1, rfl⟩
      | have hkf : keyA true bg (es.map En.a) i = false := by
          rw [Bool.eq_false_iff, hk]
          intro hh
          simp only [Bool.and_eq_true, Bool.or_eq_true, decide_eq_true_iff] at hh
          obtain ⟨⟨h1, h2⟩, h3, h4⟩ := hh
          have h1' : (!e.i.lo) = true := h1
          have h3' : e.i.f.k = true := h3
          have h4' : e.g = latA (es.map En.a) := h4
          first
            | exact absurd h4' ‹¬ e.g = _›
            | (cases h3'.symm.trans ‹e.i.f.k = false›)
            | (cases h1'.symm.trans ‹(!e.i.lo) = false›)
            | (rcases h2 with h | h
               · omega
               · cases h.symm.trans ‹(!bg) = false›)
        refine xq_roundK rfl (i + 1) ⟨by omega, fun j hj => ?_⟩ (by omega) (List.Sublist.refl _) (by repeat (first | exact keep_nil | refine keep_cons rfl ?_))
        rcases Nat.lt_or_ge j i with h | h
        · exact hno j h
        · have hji : j = i := by omega
          rw [hji]; exact hkf
  · skip
    focus
      refine xc_seq ?_
      refine xc_seq ?_
      refine xc_region ?_
      refine xo_rd (rd_move rfl) rfl ?_
      refine xo_rd (rd_move rfl) rfl ?_
      refine xo_rd (rd_len rfl) rfl ?_
      refine xo_rd (rd_lss rfl rfl) rfl ?_
      refine xo_nil ?_
      refine xq_seq ?_
      refine xc_dec rfl (fun h1 => (by exfalso; omega)) (fun h1 => ?_)
      refine xc_exit ?_
      refine xq_then_exit ?_
      refine xq_then_exit ?_
      refine xq_block_hit ?_
      refine xq_seq ?_
      refine xc_seq ?_
      refine xc_region ?_
      refine xo_rd (rd_cast (v' := .agg zFr.enc.toArray) (rd_build (T := 41) rfl rfl rfl) (by kernel_rfl)) rfl ?_
      refine xo_ef rfl (ef_storeB [] _ rfl rfl (by first | rfl | assumption) rfl rfl rfl ?_)
      refine xo_rd (rd_assign rfl) rfl ?_
      refine xo_nil ?_
      refine xq_seq ?_
      refine xc_ret ?_
    refine xq_retB2 (.inl rfl) Try.results32 rfl rfl Kn.o0 rfl (List.sublist_append_right [_] _) ⟨zFr, false, rfl, fun h => by (cases h), rfl⟩
set_option maxHeartbeats 1600000 in
theorem xf_stays {W : World} {L : List Blk} (p : Option Addr) (n c : Nat) (es : List En) (hn : es.length = n) (hr : Rs W L p (es.flatMap En.enc)) (hm : n ≤ 1000000) (hat : ∀ e, e ∈ es → e.i.f.At W L) (hf : ∀ e, e ∈ es → e.i.f.Few) (f : Fr) (hfa : f.At W L) :
    XF Try.prog W 36 #[.slice p n c, .agg f.enc.toArray] L (fun v L' => v = .bool (es.any fun e => !e.i.lo && decide (e.i.f.a = f.a)) ∧ L' = L) := by
  refine xf_enter (args := [_, _]) Try.func36 rfl Try.ntmps36 rfl ?_
  focus
    refine xc_seq ?_
    refine xc_region ?_
    refine xo_ef rfl (ef_box rfl fun r3 => ?_)
    refine xo_rd (rd_assign rfl) rfl ?_
    refine xo_nil ?_
    refine xq_seq ?_
    refine xc_seq ?_
    refine xc_seq ?_
    refine xc_region ?_
    refine xo_rd (rd_assign rfl) rfl ?_
    refine xo_nil ?_
    refine xq_seq ?_
    refine xc_block ?_
  refine xc_loopK (ι := Nat) (fun i => i ≤ n ∧ ∀ e, e ∈ es.take i → (!e.i.lo && decide (e.i.f.a = f.a)) = false) (fun i => n - i) (fun i => [(0, .slice p n c), (3, .pointer (some ⟨r3, 0, none⟩)), (5, .int .i64 i)]) 0 ⟨Nat.zero_le _, by simp⟩ (by repeat (first | exact keep_nil | refine keep_cons rfl ?_)) ?_
  rintro i ⟨hi, hno⟩
  by_cases hin : i < n
  · obtain ⟨b, o, hp, hc⟩ := hr.rows En.len (by decide) (by omega)
    subst hp
    have hci := hc i (by omega)
    have e1 : es[i]? = some es[i] := List.getElem?_eq_getElem (by omega)
    have hmem : es[i] ∈ es := List.getElem_mem _
    generalize es[i] = e at *
    have hlo := hci 2 _ rfl
    have hcF := e.at_f hci
    obtain ⟨sf, hsf⟩ : ∃ r, decide (e.i.f.a = f.a) = r := ⟨_, rfl⟩
    focus
      refine xc_seq ?_
      refine xc_seq ?_
      refine xc_region ?_
      refine xo_rd (rd_move rfl) rfl ?_
      refine xo_rd (rd_move rfl) rfl ?_
      refine xo_rd (rd_len rfl) rfl ?_
      refine xo_rd (rd_lss rfl rfl) rfl ?_
      refine xo_nil ?_
      refine xq_seq ?_
      refine xc_dec rfl (fun hz1 => ?_) (fun hz1 => (by exfalso; omega))
      refine xc_skip ?_
      refine xq_seq ?_
      refine xc_seq ?_
      refine xc_block ?_
      refine xc_seq ?_
      refine xc_drawML [0, 0, 3, 4, 8, 16, 32, 64, 128, 128, 896, 1152, 2176, 4224, 128, 24704, 32896] [0, 0, 3, 4, 8, 16, 32, 64, 128, 128, 896, 1152, 2176, 4224, 128, 24704, 32896] (by kernel_rfl) (by kernel_rfl) (by kernel_rfl) ?_
      refine xm_take 0 (m' := 1) rfl (by kernel_rfl) (by first | exact Sb.refl | exact Sb.nil | (repeat (first | exact Sb.nil | exact Sb.refl | exact Sb.app0 | apply Sb.keep | apply Sb.keepApp | apply Sb.cons | apply Sb.app))) (rd_move rfl) rfl (by kernel_rfl) ?_
      refine xm_take 1 (m' := 3) rfl (by kernel_rfl) (by first | exact Sb.refl | exact Sb.nil | (repeat (first | exact Sb.nil | exact Sb.refl | exact Sb.app0 | apply Sb.keep | apply Sb.keepApp | apply Sb.cons | apply Sb.app))) (rd_move rfl) rfl (by kernel_rfl) ?_
      refine xm_take 2 (m' := 7) rfl (by kernel_rfl) (by first | exact Sb.refl | exact Sb.nil | (repeat (first | exact Sb.nil | exact Sb.refl | exact Sb.app0 | apply Sb.keep | apply Sb.keepApp | apply Sb.cons | apply Sb.app))) (rd_indexAddr rfl rfl (by omega) (by omega)) rfl (by kernel_rfl) ?_
      refine xm_take 3 (m' := 15) rfl (by kernel_rfl) (by first | exact Sb.refl | exact Sb.nil | (repeat (first | exact Sb.nil | exact Sb.refl | exact Sb.app0 | apply Sb.keep | apply Sb.keepApp | apply Sb.cons | apply Sb.app))) (rd_fieldAddr rfl) rfl (by kernel_rfl) ?_
      refine xm_take 4 (m' := 31) rfl (by kernel_rfl) (by first | exact Sb.refl | exact Sb.nil | (repeat (first | exact Sb.nil | exact Sb.refl | exact Sb.app0 | apply Sb.keep | apply Sb.keepApp | apply Sb.cons | apply Sb.app))) (rd_fieldAddr rfl) rfl (by kernel_rfl) ?_
      refine xm_take 5 (m' := 63) rfl (by kernel_rfl) (by first | exact Sb.refl | exact Sb.nil | (repeat (first | exact Sb.nil | exact Sb.refl | exact Sb.app0 | apply Sb.keep | apply Sb.keepApp | apply Sb.cons | apply Sb.app))) (rd_load1 rfl (hlo.mono (by intro z hz; simp [hz]))) rfl (by kernel_rfl) ?_
      refine xm_take 6 (m' := 127) rfl (by kernel_rfl) (by first | exact Sb.refl | exact Sb.nil | (repeat (first | exact Sb.nil | exact Sb.refl | exact Sb.app0 | apply Sb.keep | apply Sb.keepApp | apply Sb.cons | apply Sb.app))) (rd_not rfl) rfl (by kernel_rfl) ?_
      refine xm_take 7 (m' := 255) rfl (by kernel_rfl) (by first | exact Sb.refl | exact Sb.nil | (repeat (first | exact Sb.nil | exact Sb.refl | exact Sb.app0 | apply Sb.keep | apply Sb.keepApp | apply Sb.cons | apply Sb.app))) (rd_move rfl) rfl (by kernel_rfl) ?_
      refine xm_split 19 rfl (fun hz2 => ?_) (fun hz2 => ?_)
      refine xm_gtake 8 (m' := 511) rfl (by kernel_rfl) (by first | exact Sb.refl | exact Sb.nil | (repeat (first | exact Sb.nil | exact Sb.refl | exact Sb.app0 | apply Sb.keep | apply Sb.keepApp | apply Sb.cons | apply Sb.app))) rfl rfl (rd_move rfl) rfl (by kernel_rfl) ?_
      refine xm_gtake 9 (m' := 1023) rfl (by kernel_rfl) (by first | exact Sb.refl | exact Sb.nil | (repeat (first | exact Sb.nil | exact Sb.refl | exact Sb.app0 | apply Sb.keep | apply Sb.keepApp | apply Sb.cons | apply Sb.app))) rfl rfl (rd_move rfl) rfl (by kernel_rfl) ?_
      refine xm_gtake 10 (m' := 2047) rfl (by kernel_rfl) (by first | exact Sb.refl | exact Sb.nil | (repeat (first | exact Sb.nil | exact Sb.refl | exact Sb.app0 | apply Sb.keep | apply Sb.keepApp | apply Sb.cons | apply Sb.app))) rfl rfl (rd_indexAddr rfl rfl (by omega) (by omega)) rfl (by kernel_rfl) ?_
      refine xm_gtake 11 (m' := 4095) rfl (by kernel_rfl) (by first | exact Sb.refl | exact Sb.nil | (repeat (first | exact Sb.nil | exact Sb.refl | exact Sb.app0 | apply Sb.keep | apply Sb.keepApp | apply Sb.cons | apply Sb.app))) rfl rfl (rd_fieldAddr rfl) rfl (by kernel_rfl) ?_
      refine xm_gtake 12 (m' := 8191) rfl (by kernel_rfl) (by first | exact Sb.refl | exact Sb.nil | (repeat (first | exact Sb.nil | exact Sb.refl | exact Sb.app0 | apply Sb.keep | apply Sb.keepApp | apply Sb.cons | apply Sb.app))) rfl rfl (rd_fieldAddr rfl) rfl (by kernel_rfl) ?_
      refine xm_gtake 13 (m' := 16383) rfl (by kernel_rfl) (by first | exact Sb.refl | exact Sb.nil | (repeat (first | exact Sb.nil | exact Sb.refl | exact Sb.app0 | apply Sb.keep | apply Sb.keepApp | apply Sb.cons | apply Sb.app))) rfl rfl (rd_loadA (vs := e.i.f.enc) rfl rfl (fun j u hj => (hcF j u hj).mono (by intro z hz; simp [hz]))) rfl (by kernel_rfl) ?_
      refine xm_gtake 14 (m' := 32767) rfl (by kernel_rfl) (by first | exact Sb.refl | exact Sb.nil | (repeat (first | exact Sb.nil | exact Sb.refl | exact Sb.app0 | apply Sb.keep | apply Sb.keepApp | apply Sb.cons | apply Sb.app))) rfl rfl (rd_loadB rfl Kn.o0 (by rfl)) rfl (by kernel_rfl) ?_
      refine xm_gone 15 (m' := 65535) rfl (by kernel_rfl) rfl rfl rfl (by kernel_rfl) (ef_call rfl (XF.mono (xf_FSame e.i.f f ((hat e hmem).mono (by intro z hz; simp [hz])) (hfa.mono (by intro z hz; simp [hz])) (hf e hmem) sf hsf) ?_))
      rintro v L' ⟨rfl, rfl⟩
      refine ⟨(by first | exact Sb.refl | exact Sb.nil | (repeat (first | exact Sb.nil | exact Sb.refl | exact Sb.app0 | apply Sb.keep | apply Sb.keepApp | apply Sb.cons | apply Sb.app))), ?_⟩
      refine xm_take 16 (m' := 131071) rfl (by kernel_rfl) (by first | exact Sb.refl | exact Sb.nil | (repeat (first | exact Sb.nil | exact Sb.refl | exact Sb.app0 | apply Sb.keep | apply Sb.keepApp | apply Sb.cons | apply Sb.app))) (rd_pickt rfl rfl) rfl (by kernel_rfl) ?_
      refine xm_done (by kernel_rfl) ?_
      refine xq_seq ?_
      refine xc_cond rfl (fun hz3 => ?_) (fun hz3 => ?_)
      refine xc_seq ?_
      refine xc_region ?_
      refine xo_rd (rd_assign rfl) rfl ?_
      refine xo_nil ?_
      refine xq_seq ?_
      refine xc_ret ?_
      refine xq_block_ret ?_
      refine xq_then_ret ?_
      refine xq_then_ret ?_
      refine xq_block_ret ?_
      refine xq_then_ret ?_
      rotate_left
      refine xc_skip ?_
      refine xq_block ?_
      refine xq_seq ?_
      refine xc_region ?_
      refine xo_rd (rd_move rfl) rfl ?_
      refine xo_rd (rd_addn rfl rfl (by omega) (by omega)) rfl ?_
      refine xo_rd (rd_assign rfl) rfl ?_
      refine xo_nil ?_
      rotate_left
      refine xm_gskip 8 (m' := 511) rfl (by kernel_rfl) (by first | exact Sb.refl | exact Sb.nil | (repeat (first | exact Sb.nil | exact Sb.refl | exact Sb.app0 | apply Sb.keep | apply Sb.keepApp | apply Sb.cons | apply Sb.app))) rfl rfl rfl rfl (by kernel_rfl) ?_
      refine xm_gskip 9 (m' := 1023) rfl (by kernel_rfl) (by first | exact Sb.refl | exact Sb.nil | (repeat (first | exact Sb.nil | exact Sb.refl | exact Sb.app0 | apply Sb.keep | apply Sb.keepApp | apply Sb.cons | apply Sb.app))) rfl rfl rfl rfl (by kernel_rfl) ?_
      refine xm_gskip 10 (m' := 2047) rfl (by kernel_rfl) (by first | exact Sb.refl | exact Sb.nil | (repeat (first | exact Sb.nil | exact Sb.refl | exact Sb.app0 | apply Sb.keep | apply Sb.keepApp | apply Sb.cons | apply Sb.app))) rfl rfl rfl rfl (by kernel_rfl) ?_
      refine xm_gskip 11 (m' := 4095) rfl (by kernel_rfl) (by first | exact Sb.refl | exact Sb.nil | (repeat (first | exact Sb.nil | exact Sb.refl | exact Sb.app0 | apply Sb.keep | apply Sb.keepApp | apply Sb.cons | apply Sb.app))) rfl rfl rfl rfl (by kernel_rfl) ?_
      refine xm_gskip 12 (m' := 8191) rfl (by kernel_rfl) (by first | exact Sb.refl | exact Sb.nil | (repeat (first | exact Sb.nil | exact Sb.refl | exact Sb.app0 | apply Sb.keep | apply Sb.keepApp | apply Sb.cons | apply Sb.app))) rfl rfl rfl rfl (by kernel_rfl) ?_
      refine xm_gskip 13 (m' := 16383) rfl (by kernel_rfl) (by first | exact Sb.refl | exact Sb.nil | (repeat (first | exact Sb.nil | exact Sb.refl | exact Sb.app0 | apply Sb.keep | apply Sb.keepApp | apply Sb.cons | apply Sb.app))) rfl rfl rfl rfl (by kernel_rfl) ?_
      refine xm_gskip 14 (m' := 32767) rfl (by kernel_rfl) (by first | exact Sb.refl | exact Sb.nil | (repeat (first | exact Sb.nil | exact Sb.refl | exact Sb.app0 | apply Sb.keep | apply Sb.keepApp | apply Sb.cons | apply Sb.app))) rfl rfl rfl rfl (by kernel_rfl) ?_
      refine xm_gskip 15 (m' := 65535) rfl (by kernel_rfl) (by first | exact Sb.refl | exact Sb.nil | (repeat (first | exact Sb.nil | exact Sb.refl | exact Sb.app0 | apply Sb.keep | apply Sb.keepApp | apply Sb.cons | apply Sb.app))) rfl rfl rfl rfl (by kernel_rfl) ?_
      refine xm_take 16 (m' := 131071) rfl (by kernel_rfl) (by first | exact Sb.refl | exact Sb.nil | (repeat (first | exact Sb.nil | exact Sb.refl | exact Sb.app0 | apply Sb.keep | apply Sb.keepApp | apply Sb.cons | apply Sb.app))) (rd_pickf rfl rfl) rfl (by kernel_rfl) ?_
      refine xm_done (by kernel_rfl) ?_
      refine xq_seq ?_
      refine xc_condf rfl ?_
      refine xc_skip ?_
      refine xq_block ?_
      refine xq_seq ?_
      refine xc_region ?_
      refine xo_rd (rd_move rfl) rfl ?_
      refine xo_rd (rd_addn rfl rfl (by omega) (by omega)) rfl ?_
      refine xo_rd (rd_assign rfl) rfl ?_
      refine xo_nil ?_
      rotate_left
    · rw [hz3] at hsf
      exact xq_sub (List.sublist_append_right [_] _) (xq_ret1 (.inl rfl) Try.results36 rfl ⟨congrArg Value.bool (List.any_eq_true.2 ⟨e, hmem, by rw [hz2, hsf]; rfl⟩).symm, rfl⟩)
    all_goals
      refine xq_roundK rfl (i + 1) ⟨by omega, fun x hx => ?_⟩ (by omega) (List.Sublist.refl _) (by repeat (first | exact keep_nil | refine keep_cons rfl ?_))
      rw [List.take_add_one, e1] at hx
      rcases List.mem_append.1 hx with h1 | h1
      · exact hno x h1
      · rw [List.mem_singleton.1 h1]
        first
          | rw [show (!e.i.lo) = false from hz2]; rfl
          | rw [hz3] at hsf; rw [hsf, Bool.and_false]
  · skip
    focus
      refine xc_seq ?_
      refine xc_seq ?_
      refine xc_region ?_
      refine xo_rd (rd_move rfl) rfl ?_
      refine xo_rd (rd_move rfl) rfl ?_
      refine xo_rd (rd_len rfl) rfl ?_
      refine xo_rd (rd_lss rfl rfl) rfl ?_
      refine xo_nil ?_
      refine xq_seq ?_
      refine xc_dec rfl (fun h1 => (by exfalso; omega)) (fun h1 => ?_)
      refine xc_exit ?_
      refine xq_then_exit ?_
      refine xq_then_exit ?_
      refine xq_block_hit ?_
      refine xq_seq ?_
      refine xc_seq ?_
      refine xc_region ?_
      refine xo_rd (rd_assign rfl) rfl ?_
      refine xo_nil ?_
      refine xq_seq ?_
      refine xc_ret ?_
    rw [List.take_of_length_le (by omega)] at hno
    exact xq_sub (List.sublist_append_right [_] _) (xq_ret1 (.inl rfl) Try.results36 rfl ⟨congrArg Value.bool (List.any_eq_false.2 fun e he => by rw [hno e he]; decide).symm, rfl⟩)
end Go.Proofs.Ytpheiklhjelkcaa.X
