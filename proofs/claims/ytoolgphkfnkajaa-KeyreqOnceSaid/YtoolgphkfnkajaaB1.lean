/-
  Chapter 23: who is answered; when the next request may go: walks of my own.
-/
import Derived.Test.YtoolgphkfnkajaaA9
namespace Go.Proofs.Ytoolgphkfnkajaa.X
open Go Go.RowKit
set_option linter.unusedVariables false
set_option linter.unusedSimpArgs false
/-- Of those on a row, who is among the answered ones waits no more. -/
def ansM (az ts : List Int) (l : List Sr) : List Sr := l.map fun s => if s.id ∈ ts ∧ 0 ≤ ixOf az s.id then ansS s else s
theorem ansM_ids (az ts : List Int) (l : List Sr) : (ansM az ts l).map Sr.id = l.map Sr.id := by
  unfold ansM
  rw [List.map_map]
  refine List.map_congr_left fun s _ => ?_
  show (if s.id ∈ ts ∧ 0 ≤ ixOf az s.id then ansS s else s).id = s.id
  split <;> rfl
theorem ansM_get {az ts : List Int} {l : List Sr} (hp : (l.map Sr.id).Pairwise (· < ·)) {s : Sr} (hs : s ∈ l) (hd : s.id ∉ ts) : getS (ansM az ts l) s.id = s := by
  have hm : s ∈ ansM az ts l := by
    unfold ansM
    exact List.mem_map.2 ⟨s, hs, if_neg fun h => hd h.1⟩
  exact getS_mem (by rw [ansM_ids]; exact hp) hm
theorem ansM_skip {az ts : List Int} {l : List Sr} {d : Int} (h : ¬ 0 ≤ ixOf az d) : ansM az (ts ++ [d]) l = ansM az ts l := by
  unfold ansM
  refine List.map_congr_left fun s _ => ?_
  by_cases hd : s.id = d
  · rw [if_neg (by rw [hd]; exact fun h2 => h h2.2), if_neg (by rw [hd]; exact fun h2 => h h2.2)]
  · simp [hd]
theorem ansM_put {az ts : List Int} {l : List Sr} (hp : (l.map Sr.id).Pairwise (· < ·)) {s : Sr} (hs : s ∈ l) (hd : s.id ∉ ts) (ha : 0 ≤ ixOf az s.id) : putS (ansS s) (ansM az ts l) = ansM az (ts ++ [s.id]) l := by
  rw [put_map (by rw [ansM_ids]; exact hp) (by rw [ansM_ids]; show s.id ∈ _; exact List.mem_map_of_mem hs)]
  unfold ansM
  rw [List.map_map]
  refine List.map_congr_left fun y hy => ?_
  show (if (if y.id ∈ ts ∧ 0 ≤ ixOf az y.id then ansS y else y).id = s.id then ansS s else (if y.id ∈ ts ∧ 0 ≤ ixOf az y.id then ansS y else y)) = if y.id ∈ ts ++ [s.id] ∧ 0 ≤ ixOf az y.id then ansS y else y
  have hyi : (if y.id ∈ ts ∧ 0 ≤ ixOf az y.id then ansS y else y).id = y.id := by split <;> rfl
  rw [hyi]
  by_cases hys : y.id = s.id
  · have : y = s := by rw [← getS_mem hp hy, ← getS_mem hp hs, hys]
    subst this
    rw [if_pos rfl, if_pos ⟨by simp, ha⟩]
  · rw [if_neg hys]
    simp [hys]
/-- Who is among the answered ones waits no more. -/
def ansA (az : List Int) (l : List Sr) : List Sr := l.map fun s => if 0 < s.wt ∧ 0 ≤ ixOf az s.id then ansS s else s
theorem ansM_all {az : List Int} {l : List Sr} (hp : (l.map Sr.id).Pairwise (· < ·)) : ansM az (waitL l) l = ansA az l := by
  unfold ansM ansA
  refine List.map_congr_left fun s hs => ?_
  have : s.id ∈ waitL l ↔ 0 < s.wt := by
    constructor
    · intro h
      obtain ⟨y, hy, he⟩ := List.mem_map.1 h
      have hy2 := List.mem_filter.1 hy
      have : y = s := by rw [← getS_mem hp hy2.1, ← getS_mem hp hs, he]
      subst this
      simpa using hy2.2
    · intro h
      exact List.mem_map_of_mem (List.mem_filter.2 ⟨hs, by simpa using h⟩)
  simp only [this]
set_option maxHeartbeats 1600000 in
theorem xf_Answered {W : World} {L : List Blk} (w : Int) (r mb : Nat) (mo : Obj) (l : List Sr) (hx : RqOk w mo l) (q : Option Addr) (m c : Nat) (az : List Int) (hal : az.length = m) (har : Rs W (rqB w r mb mo L) q (ints .u32 az)) (hL0 : ∀ mo', Rs W (rqB w r mb mo' L) q (ints .u32 az)) (hm : m ≤ 1000) :
    XF Try.prog W 9 #[.pointer (some ⟨r, 0, none⟩), .slice q m c] (rqB w r mb mo L) (fun v L' => v = .tuple #[] ∧ ∃ mo', RqOk w mo' (ansA az l) ∧ L' = rqB w r mb mo' L) := by
  have hso := hx.so
  refine xf_enter (args := [_, _]) Try.func9 rfl Try.ntmps9 rfl ?_
  focus
    refine xc_seq ?_
    refine xc_region ?_
    refine xo_rd (rd_move rfl) rfl ?_
    refine xo_ef rfl (ef_call rfl (XF.mono (xf_Waiting w r mb mo l hx) ?_))
    rintro v L' ⟨p, k, lo, rfl, hO, rfl⟩
    refine xo_rd (rd_len rfl) rfl ?_
    refine xo_rd (rd_move rfl) rfl ?_
    refine xo_nil ?_
    refine xq_seq ?_
    refine xc_block ?_
  refine xc_perm (L' := rqB w r mb mo (lo ++ L)) (rqB_front w r mb mo lo _) ?_
  have htk : ansA az l = ansM az (waitL l) l := (ansM_all hso).symm
  have hnd : (waitL l).Nodup := map_nodup hso _
  have hmem : ∀ d, d ∈ waitL l → ∃ s, s ∈ l ∧ s.id = d := fun d h => by
    obtain ⟨s, hs, rfl⟩ := List.mem_map.1 h
    exact ⟨s, (List.mem_filter.1 hs).1, rfl⟩
  have hdl : (waitL l).length ≤ 12 := by
    unfold waitL
    rw [List.length_map]
    exact Nat.le_trans (List.length_filter_le ..) hx.sm
  have hra : ∀ mo', Rs W (rqB w r mb mo' (lo ++ L)) q (ints .u32 az) := fun mo' => (hL0 mo').mono fun z hz => (rqB_sub w r mb mo' lo L).subset hz
  rw [htk]
  generalize waitL l = ds at *
  refine xc_loopI (ι := TkS) (fun s => s.i ≤ ds.length ∧ RqOk w s.mo (ansM az (ds.take s.i) l)) (fun s => ds.length - s.i) (fun s => rqB w r mb s.mo (lo ++ L)) (fun s => [(0, .pointer (some ⟨r, 0, none⟩)), (1, .slice q m c), (8, .slice p ds.length k), (9, .int .i64 ds.length), (10, .int .i64 s.i)]) ⟨0, mo⟩ ⟨Nat.zero_le _, by
    have : ansM az (ds.take 0) l = l := by unfold ansM; simp
    dsimp only; rw [this]; exact hx⟩ rfl (by repeat (first | exact keep_nil | refine keep_cons rfl ?_)) ?_
  rintro ⟨i, m2⟩ ⟨hi, hok⟩
  dsimp only at hi hok ⊢
  by_cases hin : i < ds.length
  case neg =>
    have hie : i = ds.length := by omega
    subst hie
    rw [List.take_length] at hok
    focus
      refine xc_seq ?_
      refine xc_region ?_
      refine xo_rd (rd_lss rfl rfl) rfl ?_
      refine xo_nil ?_
      refine xq_seq ?_
      refine xc_seq ?_
      refine xc_dec rfl (fun h1 => (by exfalso; omega)) (fun h1 => ?_)
      refine xc_exit ?_
      refine xq_then_exit ?_
      refine xq_then_exit ?_
      refine xq_block_hit ?_
    exact xq_sub (rqB_sub w r mb m2 lo L) (xq_ret0 (.inr rfl) Try.results9 ⟨rfl, m2, hok, rfl⟩)
  obtain ⟨s, hsl, hsi⟩ := hmem ds[i] (List.getElem_mem _)
  have hnt := nodup_take hnd hin
  have htake : ds.take (i + 1) = ds.take i ++ [ds[i]] := by rw [List.take_add_one, List.getElem?_eq_getElem hin]; rfl
  have hrs : Rs W (rqB w r mb m2 (lo ++ L)) p (ints .u32 ds) := hO.rs fun z hz => List.mem_cons_of_mem _ (List.mem_cons_of_mem _ (List.mem_append_left _ hz))
  obtain ⟨b, o, hpb, hc⟩ := hrs.int (i := i) hin
  subst hpb
  generalize ds[i] = d at *
  subst hsi
  have hget := ansM_get (az := az) hso hsl hnt
  have hmp := hok.mp
  have hlk := srV_get (ansM az (ds.take i) l) s.id
  rw [hget] at hlk
  by_cases hc1 : 0 ≤ ixOf az s.id
  · have hput := ansM_put (az := az) hso hsl hnt hc1
    rw [← htake] at hput
    have hput2 := fun mo' h => RqOk.put (mo' := mo') (s := ansS s) hok h (by rw [hput]; unfold ansM; rw [List.length_map]; exact hx.sm) (hx.id s hsl) (hx.la s hsl) (hx.se s hsl) (.inl rfl)
    rw [hput] at hput2
    have hcon := xf_contains (W := W) (L := rqB w r mb m2 (lo ++ L)) q m c az s.id hal (hra m2) (by omega)
    rw [decide_eq_true hc1] at hcon
    unfold rqB at *
    focus
      refine xc_seq ?_
      refine xc_region ?_
      refine xo_rd (rd_lss rfl rfl) rfl ?_
      refine xo_nil ?_
      refine xq_seq ?_
      refine xc_seq ?_
      refine xc_dec rfl (fun h1 => ?_) (fun h1 => (by exfalso; omega))
      refine xc_skip ?_
      refine xq_seq ?_
      refine xc_seq ?_
      refine xc_block ?_
      refine xc_seq ?_
      refine xc_region ?_
      refine xo_rd (rd_indexAddr rfl rfl (by omega) (by omega)) rfl ?_
      refine xo_rd (rd_load1 rfl hc) rfl ?_
      refine xo_rd (rd_assign rfl) rfl ?_
      refine xo_nil ?_
      refine xq_seq ?_
      refine xc_seq ?_
      refine xc_region ?_
      refine xo_rd (rd_move rfl) rfl ?_
      refine xo_rd (rd_move rfl) rfl ?_
      refine xo_ef rfl (ef_call rfl (XF.mono (hcon) ?_))
      rintro v L' ⟨rfl, rfl⟩
      refine xo_nil ?_
      refine xq_seq ?_
      refine xc_condt rfl ?_
      refine xc_seq ?_
      refine xc_region ?_
      refine xo_rd (rd_move rfl) rfl ?_
      refine xo_rd (rd_nilCheck rfl) rfl ?_
      refine xo_rd (rd_fieldAddr rfl) rfl ?_
      refine xo_rd (rd_load1 rfl (Cl.o0 rfl)) rfl ?_
      refine xo_rd (rd_move rfl) rfl ?_
      refine xo_rd (rd_cast (v' := .agg (sEnc s.last s.sent s.wt).toArray) (rd_lookup hmp rfl rfl Kn.o1) hlk) rfl ?_
      refine xo_ef rfl (ef_alloc fun r6 => ?_)
      refine xo_ef rfl (ef_storeB [] _ rfl rfl (by first | rfl | assumption) rfl rfl rfl ?_)
      refine xo_nil ?_
      refine xq_seq ?_
      refine xc_seq ?_
      refine xc_region ?_
      refine xo_rd (rd_fieldAddr rfl) rfl ?_
      refine xo_ef rfl (ef_store1 [] _ rfl rfl (by first | rfl | assumption) rfl rfl rfl ?_)
      refine xo_nil ?_
      refine xq_seq ?_
      refine xc_drawM [0, 1, 2, 4, 0, 0, 63] [0, 1, 2, 4, 0, 0, 63] [] (by kernel_rfl) (by kernel_rfl) (by kernel_rfl) ?_
      refine xm_take 0 (m' := 1) rfl (by kernel_rfl) Sb.a (rd_move rfl) rfl (by kernel_rfl) ?_
      refine xm_take 1 (m' := 3) rfl (by kernel_rfl) Sb.a (rd_nilCheck rfl) rfl (by kernel_rfl) ?_
      refine xm_take 2 (m' := 7) rfl (by kernel_rfl) Sb.a (rd_fieldAddr rfl) rfl (by kernel_rfl) ?_
      refine xm_take 4 (m' := 23) rfl (by kernel_rfl) Sb.a (rd_move rfl) rfl (by kernel_rfl) ?_
      refine xm_two 3 5 (mi := 31) (mk := 55) rfl rfl (by kernel_rfl) rfl rfl (by kernel_rfl) (by kernel_rfl) (ef_rd (rd_load1 rfl (Cl.o1 rfl)) ⟨Sb.a, ?_⟩) (ef_rd (rd_loadB rfl Kn.o0 (by rfl)) ⟨Sb.a, ?_⟩)
      refine xm_one 5 (m' := 63) rfl (by kernel_rfl) rfl (by kernel_rfl) (ef_rd (rd_loadB rfl Kn.o0 (by rfl)) ?_)
      refine ⟨Sb.a, ?_⟩
      refine xm_one 6 (m' := 127) rfl (by kernel_rfl) rfl (by kernel_rfl) (ef_mapUpdate [_, _] (lo ++ L) hmp rfl rfl rfl rfl fun mo2 hmp2 => ?_)
      refine ⟨Sb.a, ?_⟩
      refine xm_done (by kernel_rfl) ?_
      refine xq_block ?_
      refine xq_seq ?_
      refine xc_region ?_
      refine xo_rd (rd_addn rfl rfl (by omega) (by omega)) rfl ?_
      refine xo_rd (rd_move rfl) rfl ?_
      refine xo_nil ?_
      rotate_left
      refine xm_one 3 (m' := 63) rfl (by kernel_rfl) rfl (by kernel_rfl) (ef_rd (rd_load1 rfl (Cl.o1 rfl)) ?_)
      refine ⟨Sb.a, ?_⟩
      refine xm_one 6 (m' := 127) rfl (by kernel_rfl) rfl (by kernel_rfl) (ef_mapUpdate [_, _] (lo ++ L) hmp rfl rfl rfl rfl fun mo2 hmp2 => ?_)
      refine ⟨Sb.a, ?_⟩
      refine xm_done (by kernel_rfl) ?_
      refine xq_block ?_
      refine xq_seq ?_
      refine xc_region ?_
      refine xo_rd (rd_addn rfl rfl (by omega) (by omega)) rfl ?_
      refine xo_rd (rd_move rfl) rfl ?_
      refine xo_nil ?_
      rotate_left
    all_goals exact xq_sub (List.sublist_cons_self _ _) (xq_roundI (⟨i + 1, mo2⟩ : TkS) ⟨by dsimp only; omega, hput2 mo2 hmp2⟩ (by dsimp only; omega) rfl (by repeat (first | exact keep_nil | refine keep_cons rfl ?_)))
  · have hcon := xf_contains (W := W) (L := rqB w r mb m2 (lo ++ L)) q m c az s.id hal (hra m2) (by omega)
    rw [decide_eq_false hc1] at hcon
    have hsk := ansM_skip (az := az) (ts := ds.take i) (l := l) hc1
    rw [← htake] at hsk
    focus
      refine xc_seq ?_
      refine xc_region ?_
      refine xo_rd (rd_lss rfl rfl) rfl ?_
      refine xo_nil ?_
      refine xq_seq ?_
      refine xc_seq ?_
      refine xc_dec rfl (fun h1 => ?_) (fun h1 => (by exfalso; omega))
      refine xc_skip ?_
      refine xq_seq ?_
      refine xc_seq ?_
      refine xc_block ?_
      refine xc_seq ?_
      refine xc_region ?_
      refine xo_rd (rd_indexAddr rfl rfl (by omega) (by omega)) rfl ?_
      refine xo_rd (rd_load1 rfl hc) rfl ?_
      refine xo_rd (rd_assign rfl) rfl ?_
      refine xo_nil ?_
      refine xq_seq ?_
      refine xc_seq ?_
      refine xc_region ?_
      refine xo_rd (rd_move rfl) rfl ?_
      refine xo_rd (rd_move rfl) rfl ?_
      refine xo_ef rfl (ef_call rfl (XF.mono (hcon) ?_))
      rintro v L' ⟨rfl, rfl⟩
      refine xo_nil ?_
      refine xq_seq ?_
      refine xc_condf rfl ?_
      refine xc_skip ?_
      refine xq_block ?_
      refine xq_seq ?_
      refine xc_region ?_
      refine xo_rd (rd_addn rfl rfl (by omega) (by omega)) rfl ?_
      refine xo_rd (rd_move rfl) rfl ?_
      refine xo_nil ?_
    exact xq_roundI (⟨i + 1, m2⟩ : TkS) ⟨by dsimp only; omega, by dsimp only; rw [hsk]; exact hok⟩ (by dsimp only; omega) rfl (by repeat (first | exact keep_nil | refine keep_cons rfl ?_))
/-- When the next request may go. -/
def dueF (w : Int) (l : List Sr) (ds : List Int) : Int := ds.foldl (fun d id => min d ((getS l id).last + min w (18446744073709551615 - (getS l id).last))) 18446744073709551615
set_option maxHeartbeats 1600000 in
theorem xf_Due {W : World} {L : List Blk} (w : Int) (r mb : Nat) (mo : Obj) (l : List Sr) (hx : RqOk w mo l) :
    XF Try.prog W 14 #[.pointer (some ⟨r, 0, none⟩)] (rqB w r mb mo L) (fun v L' => v = .tuple #[.int .u64 (if waitL l = [] then 0 else dueF w l (waitL l)), .bool (decide (waitL l ≠ []))] ∧ L' = rqB w r mb mo L) := by
  have hmp := hx.mp
  have hw := hx.w
  have hmem : ∀ d, d ∈ waitL l → ∃ s, s ∈ l ∧ s.id = d := fun d h => by
    obtain ⟨s, hs, rfl⟩ := List.mem_map.1 h
    exact ⟨s, (List.mem_filter.1 hs).1, rfl⟩
  have hdl : (waitL l).length ≤ 12 := by
    unfold waitL
    rw [List.length_map]
    exact Nat.le_trans (List.length_filter_le ..) hx.sm
  have hwt := xf_Waiting (W := W) (L := L) w r mb mo l hx
  generalize waitL l = ds at *
  refine xf_enter (args := [_]) Try.func14 rfl Try.ntmps14 rfl ?_
  by_cases h0 : ds = []
  · subst h0
    focus
      refine xc_seq ?_
      refine xc_region ?_
      refine xo_rd (rd_assign rfl) rfl ?_
      refine xo_rd (rd_assign rfl) rfl ?_
      refine xo_nil ?_
      refine xq_seq ?_
      refine xc_seq ?_
      refine xc_region ?_
      refine xo_rd (rd_move rfl) rfl ?_
      refine xo_ef rfl (ef_call rfl (XF.mono (hwt) ?_))
      rintro v L' ⟨p, k, lo, rfl, hO, rfl⟩
      refine xo_rd (rd_assign rfl) rfl ?_
      refine xo_nil ?_
      refine xq_seq ?_
      refine xc_seq ?_
      refine xc_seq ?_
      refine xc_region ?_
      refine xo_rd (rd_move rfl) rfl ?_
      refine xo_rd (rd_len rfl) rfl ?_
      refine xo_rd (rd_eql rfl rfl) rfl ?_
      refine xo_nil ?_
      refine xq_seq ?_
      refine xc_condt rfl ?_
      refine xc_seq ?_
      refine xc_region ?_
      refine xo_rd (rd_assign rfl) rfl ?_
      refine xo_rd (rd_assign rfl) rfl ?_
      refine xo_nil ?_
      refine xq_seq ?_
      refine xc_ret ?_
      refine xq_then_ret ?_
    exact xq_sub (List.sublist_append_right lo _) (xq_ret2 (.inl rfl) Try.results14 rfl rfl ⟨by simp, rfl⟩)
  have hpos : 0 < ds.length := List.length_pos_iff.2 h0
  rw [if_neg h0, decide_eq_true h0]
  focus
    refine xc_seq ?_
    refine xc_region ?_
    refine xo_rd (rd_assign rfl) rfl ?_
    refine xo_rd (rd_assign rfl) rfl ?_
    refine xo_nil ?_
    refine xq_seq ?_
    refine xc_seq ?_
    refine xc_region ?_
    refine xo_rd (rd_move rfl) rfl ?_
    refine xo_ef rfl (ef_call rfl (XF.mono (hwt) ?_))
    rintro v L' ⟨p, k, lo, rfl, hO, rfl⟩
    refine xo_rd (rd_assign rfl) rfl ?_
    refine xo_nil ?_
    refine xq_seq ?_
    refine xc_seq ?_
    refine xc_seq ?_
    refine xc_region ?_
    refine xo_rd (rd_move rfl) rfl ?_
    refine xo_rd (rd_len rfl) rfl ?_
    refine xo_rd (rd_eql rfl rfl) rfl ?_
    refine xo_nil ?_
    refine xq_seq ?_
    refine xc_dec rfl (fun h1 => (by exfalso; omega)) (fun h1 => ?_)
    refine xc_skip ?_
    refine xq_seq ?_
    refine xc_seq ?_
    refine xc_region ?_
    refine xo_rd (rd_assign rfl) rfl ?_
    refine xo_nil ?_
    refine xq_seq ?_
    refine xc_seq ?_
    refine xc_seq ?_
    refine xc_region ?_
    refine xo_rd (rd_move rfl) rfl ?_
    refine xo_rd (rd_len rfl) rfl ?_
    refine xo_rd (rd_move rfl) rfl ?_
    refine xo_nil ?_
    refine xq_seq ?_
    refine xc_block ?_
  refine xc_loopK (ι := Nat) (fun i => i ≤ ds.length ∧ 0 ≤ dueF w l (ds.take i) ∧ dueF w l (ds.take i) ≤ 18446744073709551615) (fun i => ds.length - i) (fun i => [(0, .pointer (some ⟨r, 0, none⟩)), (5, .int .u64 (dueF w l (ds.take i))), (14, .slice p ds.length k), (15, .int .i64 ds.length), (16, .int .i64 i)]) 0 ⟨Nat.zero_le _, by unfold dueF; simp, by unfold dueF; simp⟩ (by repeat (first | exact keep_nil | refine keep_cons rfl ?_)) ?_
  rintro i ⟨hi, hd0, hd1⟩
  by_cases hin : i < ds.length
  case neg =>
    rw [List.take_of_length_le (by omega)]
    focus
      refine xc_seq ?_
      refine xc_region ?_
      refine xo_rd (rd_lss rfl rfl) rfl ?_
      refine xo_nil ?_
      refine xq_seq ?_
      refine xc_seq ?_
      refine xc_dec rfl (fun h1 => (by exfalso; omega)) (fun h1 => ?_)
      refine xc_exit ?_
      refine xq_then_exit ?_
      refine xq_then_exit ?_
      refine xq_block_hit ?_
      refine xq_seq ?_
      refine xc_seq ?_
      refine xc_region ?_
      refine xo_rd (rd_move rfl) rfl ?_
      refine xo_rd (rd_assign rfl) rfl ?_
      refine xo_rd (rd_assign rfl) rfl ?_
      refine xo_nil ?_
      refine xq_seq ?_
      refine xc_ret ?_
    exact xq_sub (List.sublist_append_right lo _) (xq_ret2 (.inl rfl) Try.results14 rfl rfl ⟨rfl, rfl⟩)
  have htake : dueF w l (ds.take (i + 1)) = min (dueF w l (ds.take i)) ((getS l ds[i]).last + min w (18446744073709551615 - (getS l ds[i]).last)) := by
    unfold dueF
    rw [List.take_add_one, List.getElem?_eq_getElem hin, List.foldl_append]; rfl
  obtain ⟨s, hsl, hsi⟩ := hmem ds[i] (List.getElem_mem _)
  have hlk := srV_get l ds[i]
  rw [← hsi, getS_mem hx.so hsl] at hlk htake
  have hla := hx.la s hsl
  have hrs : Rs W (lo ++ rqB w r mb mo L) p (ints .u32 ds) := hO.rs fun z hz => List.mem_append_left _ hz
  obtain ⟨b, o, hpb, hc⟩ := hrs.int (i := i) hin
  subst hpb
  rw [← hsi] at hc
  generalize dueF w l (ds.take i) = D at *
  have hval : dueF w l (ds.take (i + 1)) = if (s.last + if 18446744073709551615 - s.last < w then 18446744073709551615 - s.last else w) < D then s.last + (if 18446744073709551615 - s.last < w then 18446744073709551615 - s.last else w) else D := by
    rw [htake]
    simp only [Int.min_def]
    repeat' split
    all_goals omega
  have hb0 : 0 ≤ dueF w l (ds.take (i + 1)) ∧ dueF w l (ds.take (i + 1)) ≤ 18446744073709551615 := by rw [htake]; omega
  focus
    refine xc_seq ?_
    refine xc_region ?_
    refine xo_rd (rd_lss rfl rfl) rfl ?_
    refine xo_nil ?_
    refine xq_seq ?_
    refine xc_seq ?_
    refine xc_dec rfl (fun hz1 => ?_) (fun hz1 => (by exfalso; omega))
    refine xc_skip ?_
    refine xq_seq ?_
    refine xc_seq ?_
    refine xc_block ?_
    refine xc_seq ?_
    refine xc_region ?_
    refine xo_rd (rd_indexAddr rfl rfl (by omega) (by omega)) rfl ?_
    refine xo_rd (rd_load1 rfl hc) rfl ?_
    refine xo_rd (rd_assign rfl) rfl ?_
    refine xo_nil ?_
    refine xq_seq ?_
    refine xc_seq ?_
    refine xc_region ?_
    refine xo_rd (rd_move rfl) rfl ?_
    refine xo_rd (rd_nilCheck rfl) rfl ?_
    refine xo_rd (rd_fieldAddr rfl) rfl ?_
    refine xo_rd (rd_load1 rfl (Cl.own (i := 1) (List.mem_append_right _ (rqB_mem (w := w) (r := r) (mb := mb) (mo := mo) (L := L)).1) rfl)) rfl ?_
    refine xo_rd (rd_move rfl) rfl ?_
    refine xo_rd (rd_cast (v' := .agg (sEnc s.last s.sent s.wt).toArray) (rd_lookup hmp rfl rfl (.inr (List.mem_append_right _ rqB_mem.2))) hlk) rfl ?_
    refine xo_rd (rd_field1 rfl rfl) rfl ?_
    refine xo_rd (rd_assign rfl) rfl ?_
    refine xo_nil ?_
    refine xq_seq ?_
    refine xc_region ?_
    refine xo_rd (rd_move rfl) rfl ?_
    refine xo_rd (rd_move rfl) rfl ?_
    refine xo_rd (rd_move rfl) rfl ?_
    refine xo_rd (rd_nilCheck rfl) rfl ?_
    refine xo_rd (rd_fieldAddr rfl) rfl ?_
    refine xo_rd (rd_load1 rfl (Cl.own (i := 0) (List.mem_append_right _ (rqB_mem (w := w) (r := r) (mb := mb) (mo := mo) (L := L)).1) rfl)) rfl ?_
    refine xo_rd (rd_move rfl) rfl ?_
    refine xo_rd (rd_subn rfl rfl (by omega) (by omega)) rfl ?_
    refine xo_rd (rd_min rfl rfl) rfl ?_
    refine xo_rd (rd_addn rfl rfl (by omega) (by omega)) rfl ?_
    refine xo_rd (rd_min rfl rfl) rfl ?_
    refine xo_rd (rd_assign rfl) rfl ?_
    refine xo_nil ?_
    refine xq_block ?_
    refine xq_seq ?_
    refine xc_region ?_
    refine xo_rd (rd_addn rfl rfl (by omega) (by omega)) rfl ?_
    refine xo_rd (rd_move rfl) rfl ?_
    refine xo_nil ?_
  exact xq_roundK rfl (i + 1) ⟨by omega, hb0⟩ (by omega) (List.Sublist.refl _) (by rw [hval]; exact (by repeat (first | exact keep_nil | refine keep_cons rfl ?_)))
end Go.Proofs.Ytoolgphkfnkajaa.X
