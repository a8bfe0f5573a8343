/-
  Texts of my own, put together: walks and laws for this seat. No condition.
-/
import Derived.Test.YtmdeajdaeihniaaGreatN3
/-
  Chapter 13: what may be asked of a floor: walks of my own.
-/
namespace Go.Proofs.YtmdeajdaeihniaaGreat.X
open Go Go.RowKit
set_option linter.unusedVariables false
set_option linter.unusedSimpArgs false
theorem xf_mem {W : World} {L : List Blk} (r : Nat) (x : Fm) (hx : x.Ok) (hfr : FR W L r x) (p : Option Addr) (n c : Nat) (ws : List Int) (hn : ws.length = n) (hr : Rs W L p (ints .u32 ws)) (hs : n ≤ 1000000) (b : Bool) (hb : (ws.all fun w => isM x.a.ms w) = b) :
    XF Tryz.prog W 94 #[.pointer (some ⟨r, 0, none⟩), .slice p n c] L (fun v L' => v = .int .i64 (if b = true then 0 else 130) ∧ L' = L) := by
  subst hb
  exact xf_member r x.mb x.mo x.a.ms (hfr.cl 2 _ rfl) hfr.kn hx.mp p n c ws hn hr hs
theorem xf_hol {W : World} {L : List Blk} (r : Nat) (x : Fm) (hfr : FR W L r x) (w : Int) (b : Bool) (hb : holdsA x.a w = b) : XF Tryz.prog W 95 #[.pointer (some ⟨r, 0, none⟩), .int .u32 w] L (fun v L' => v = .bool b ∧ L' = L) := by
  subst hb
  exact xf_holds r _ _ w (hfr.cl 8 _ rfl) (hfr.cl 4 _ rfl)
theorem MpIs.cong {k : IntKind} {o : Obj} {f g : Int → Option Value} {s t : Nat} (h : MpIs k o f s) (hf : ∀ z, f z = g z) (hs : s = t) : MpIs k o g t := by
  obtain rfl : f = g := funext hf
  subst hs
  exact h
theorem mupd_twice {f : Int → Option Value} {n : Int} {u v : Option Value} (z : Int) : mupd (mupd f n u) n v z = mupd f n v z := by
  unfold mupd; split <;> rfl
theorem perm_f3 {a b c : Blk} (l R : List Blk) : (a :: b :: c :: (l ++ R)).Perm (l ++ (a :: b :: c :: R)) := (by classical exact List.perm_iff_count.2 fun a => by simp only [List.append_eq, List.count_append, List.count_cons, List.count_nil, List.cons_append, List.nil_append, List.flatMap_append, List.flatMap_cons, List.flatMap_nil, List.append_nil]; omega)
theorem rs_one {W : World} {L : List Blk} {r : Nat} {k : IntKind} {T : TypeId} {ws : List Int} (h : (r, Obj.cells (ints k ws).toArray T (0, 0)) ∈ L) : Rs W L (some ⟨r, 0, none⟩) (ints k ws) := Rs.fresh h
set_option maxHeartbeats 800000 in
theorem xf_Join {W : World} {L : List Blk} (r : Nat) (x : Fm) (hx : x.Ok) (w : Int) (m : Bool) : XF Tryz.prog W 79 #[.pointer (some ⟨r, 0, none⟩), .int .u32 w, .bool m] (x.blks r L) (fun v L' => v = .int .i64 (joinE x.a w) ∧ ∃ y : Fm, y.Ok ∧ y.a = joinF x.a w m ∧ L' = y.blks r L) := by
  have hfr : ∀ L', (∀ z, z ∈ (r, Obj.cells x.cells.toArray 136 (0, 0)) :: (x.mb, x.mo) :: (x.wl ++ x.gl) → z ∈ L') → FR W L' r x := fun L' h => hx.fr h
  have hfr2 := hfr (x.blks r L) (fun z hz => by unfold Fm.blks; rw [← List.append_assoc]; exact List.mem_append_left L hz)
  obtain ⟨b, hb⟩ : ∃ b, isM x.a.ms w = b := ⟨_, rfl⟩
  have hmem := fun L' (h : ∀ z, z ∈ x.blks r L → z ∈ L') p (hr : Rs W L' p (ints .u32 [w])) => xf_mem (W := W) (L := L') r x hx (hfr2.mono h) p 1 1 [w] rfl hr (by decide) b (by simpa using hb)
  obtain ⟨⟨bound, sil, ms, held, no, who, at', heard, pend, wt, gs⟩, mb, mo, wp, wc, wl, gp, gc, gl⟩ := x
  have hx' := hx
  obtain ⟨hmp, hw, hgs, hnd, hbd, hwb, hmn⟩ := hx
  dsimp only at hmp hw hgs hnd hbd hwb hmn hb
  unfold Fm.blks Fm.cells at hmem ⊢
  dsimp only at hmem ⊢
  refine xf_enter (args := [_, _, _]) Tryz.func79 rfl Tryz.ntmps79 rfl ?_
  cases b with
  | true =>
    focus
      refine xc_seq ?_
      refine xc_region ?_
      refine xo_rd (rd_assign rfl) rfl ?_
      refine xo_nil ?_
      refine xq_seq ?_
      refine xc_seq ?_
      refine xc_seq ?_
      refine xc_region ?_
      refine xo_rd (rd_move rfl) rfl ?_
      refine xo_rd (rd_move rfl) rfl ?_
      refine xo_ef rfl (ef_buildL (T := 39) (len := 1) (s := 1) (cells := (ints .u32 [w]).toArray) rfl (by decide) (by decide) (by kernel_rfl) fun r10 => ?_)
      refine xo_ef rfl (ef_call rfl (XF.mono (hmem _ (by intro z hz; simp [hz]) _ (rs_one (List.Mem.head _))) ?_))
      rintro v L' ⟨rfl, rfl⟩
      refine xo_rd (rd_assign rfl) rfl ?_
      refine xo_nil ?_
      refine xq_seq ?_
      refine xc_block ?_
      refine xc_seq ?_
      refine xc_region ?_
      refine xo_rd (rd_move rfl) rfl ?_
      refine xo_rd (rd_eql rfl rfl) rfl ?_
      refine xo_rd (rd_assign rfl) rfl ?_
      refine xo_nil ?_
      refine xq_seq ?_
      refine xc_condf rfl ?_
      refine xc_seq ?_
      refine xc_region ?_
      refine xo_rd (rd_move rfl) rfl ?_
      refine xo_rd (rd_eql rfl rfl) rfl ?_
      refine xo_rd (rd_assign rfl) rfl ?_
      refine xo_nil ?_
      refine xq_seq ?_
      refine xc_condt rfl ?_
      refine xc_seq ?_
      refine xc_region ?_
      refine xo_rd (rd_assign rfl) rfl ?_
      refine xo_nil ?_
      refine xq_seq ?_
      refine xc_ret ?_
      refine xq_block_ret ?_
      refine xq_then_ret ?_
    refine xq_sub (List.sublist_cons_self _ _) (xq_ret1 (.inl rfl) Tryz.results79 rfl ⟨by rw [show joinE _ w = 132 from by unfold joinE; dsimp only; rw [hb]; rfl], _, hx', by rw [joinF, show joinE _ w = 132 from by unfold joinE; dsimp only; rw [hb]; rfl]; rfl, rfl⟩)
  | false =>
    have hmpl : (roleV ms w).isSome = false := by rw [isM_find, hb]
    focus
      refine xc_seq ?_
      refine xc_region ?_
      refine xo_rd (rd_assign rfl) rfl ?_
      refine xo_nil ?_
      refine xq_seq ?_
      refine xc_seq ?_
      refine xc_seq ?_
      refine xc_region ?_
      refine xo_rd (rd_move rfl) rfl ?_
      refine xo_rd (rd_move rfl) rfl ?_
      refine xo_ef rfl (ef_buildL (T := 39) (len := 1) (s := 1) (cells := (ints .u32 [w]).toArray) rfl (by decide) (by decide) (by kernel_rfl) fun r10 => ?_)
      refine xo_ef rfl (ef_call rfl (XF.mono (hmem _ (by intro z hz; simp [hz]) _ (rs_one (List.Mem.head _))) ?_))
      rintro v L' ⟨rfl, rfl⟩
      refine xo_rd (rd_assign rfl) rfl ?_
      refine xo_nil ?_
      refine xq_seq ?_
      refine xc_block ?_
      refine xc_seq ?_
      refine xc_region ?_
      refine xo_rd (rd_move rfl) rfl ?_
      refine xo_rd (rd_eql rfl rfl) rfl ?_
      refine xo_rd (rd_assign rfl) rfl ?_
      refine xo_nil ?_
      refine xq_seq ?_
      refine xc_condf rfl ?_
      refine xc_seq ?_
      refine xc_region ?_
      refine xo_rd (rd_move rfl) rfl ?_
      refine xo_rd (rd_eql rfl rfl) rfl ?_
      refine xo_rd (rd_assign rfl) rfl ?_
      refine xo_nil ?_
      refine xq_seq ?_
      refine xc_condf rfl ?_
      refine xc_seq ?_
      refine xc_region ?_
      refine xo_rd (rd_move rfl) rfl ?_
      refine xo_rd (rd_nilCheck rfl) rfl ?_
      refine xo_rd (rd_fieldAddr rfl) rfl ?_
      refine xo_rd (rd_load1 rfl (Cl.o1 rfl)) rfl ?_
      refine xo_rd (rd_lenMap hmp rfl (.inr (by simp))) rfl ?_
      refine xo_rd (rd_geq rfl rfl) rfl ?_
      refine xo_rd (rd_assign rfl) rfl ?_
      refine xo_nil ?_
      refine xq_seq ?_
      refine xc_dec rfl (fun hz1 => ?_) (fun hz1 => ?_)
      refine xc_seq ?_
      refine xc_region ?_
      refine xo_rd (rd_assign rfl) rfl ?_
      refine xo_nil ?_
      refine xq_seq ?_
      refine xc_ret ?_
      refine xq_block_ret ?_
      refine xq_then_ret ?_
      rotate_left
      refine xc_skip ?_
      refine xq_block ?_
      refine xq_seq ?_
      refine xc_seq ?_
      refine xc_region ?_
      refine xo_rd (rd_move rfl) rfl ?_
      refine xo_rd (rd_nilCheck rfl) rfl ?_
      refine xo_rd (rd_fieldAddr rfl) rfl ?_
      refine xo_rd (rd_load1 rfl (Cl.o1 rfl)) rfl ?_
      refine xo_rd (rd_move rfl) rfl ?_
      refine xo_ef rfl (ef_mapUpdate [_, _] _ hmp rfl rfl rfl rfl fun mo2 hmp2 => ?_)
      refine xo_nil ?_
      refine xq_seq ?_
      refine xc_seq ?_
      refine xc_seq ?_
      refine xc_region ?_
      refine xo_rd (rd_move rfl) rfl ?_
      refine xo_nil ?_
      refine xq_seq ?_
      refine xc_cond rfl (fun hz2 => ?_) (fun hz2 => ?_)
      refine xc_region ?_
      refine xo_rd (rd_move rfl) rfl ?_
      refine xo_rd (rd_nilCheck rfl) rfl ?_
      refine xo_rd (rd_fieldAddr rfl) rfl ?_
      refine xo_rd (rd_load1 rfl (Cl.o1 rfl)) rfl ?_
      refine xo_rd (rd_move rfl) rfl ?_
      refine xo_ef rfl (ef_mapUpdate [_, _] _ hmp2 rfl rfl rfl rfl fun mo3 hmp3 => ?_)
      refine xo_nil ?_
      refine xq_seq ?_
      refine xc_seq ?_
      refine xc_region ?_
      refine xo_rd (rd_assign rfl) rfl ?_
      refine xo_nil ?_
      refine xq_seq ?_
      refine xc_ret ?_
      rotate_left
      refine xc_skip ?_
      refine xq_seq ?_
      refine xc_seq ?_
      refine xc_region ?_
      refine xo_rd (rd_assign rfl) rfl ?_
      refine xo_nil ?_
      refine xq_seq ?_
      refine xc_ret ?_
      rotate_left
    · have hE : joinE ⟨bound, sil, ms, held, no, who, at', heard, pend, wt, gs⟩ w = 131 := by unfold joinE; dsimp only; rw [hb, if_neg (by decide), if_pos (by omega)]
      exact xq_sub (List.sublist_cons_self _ _) (xq_ret1 (.inl rfl) Tryz.results79 rfl ⟨by rw [hE], _, hx', by rw [joinF, hE]; rfl, rfl⟩)
    · obtain rfl : m = true := by assumption
      have hE : joinE ⟨bound, sil, ms, held, no, who, at', heard, pend, wt, gs⟩ w = 0 := by unfold joinE; dsimp only; rw [hb, if_neg (by decide), if_neg (by omega)]
      have h2 : MpIs .u32 mo3 (roleV (insM w true ms)) (insM w true ms).length := hmp3.cong (fun z => by rw [mupd_twice, roleV_ins hb]; rfl) (by rw [hmpl, insM_len]; simp [mupd])
      have hy : (Fm.mk ⟨bound, sil, insM w true ms, held, no, who, at', heard, pend, wt, gs⟩ mb mo3 wp wc wl gp gc gl).Ok := ⟨h2, hw, hgs, insM_nodup hnd hb, hbd, hwb, by dsimp only; rw [insM_len]; omega⟩
      exact xq_sub (List.sublist_cons_self _ _) (xq_ret1 (.inl rfl) Tryz.results79 rfl ⟨by rw [hE], _, hy, by rw [joinF, hE]; rfl, rfl⟩)
    · obtain rfl : m = false := by assumption
      have hE : joinE ⟨bound, sil, ms, held, no, who, at', heard, pend, wt, gs⟩ w = 0 := by unfold joinE; dsimp only; rw [hb, if_neg (by decide), if_neg (by omega)]
      have h2 : MpIs .u32 mo2 (roleV (insM w false ms)) (insM w false ms).length := hmp2.cong (fun z => by rw [roleV_ins hb]; rfl) (by rw [hmpl, insM_len]; simp)
      have hy : (Fm.mk ⟨bound, sil, insM w false ms, held, no, who, at', heard, pend, wt, gs⟩ mb mo2 wp wc wl gp gc gl).Ok := ⟨h2, hw, hgs, insM_nodup hnd hb, hbd, hwb, by dsimp only; rw [insM_len]; omega⟩
      exact xq_sub (List.sublist_cons_self _ _) (xq_ret1 (.inl rfl) Tryz.results79 rfl ⟨by rw [hE], _, hy, by rw [joinF, hE]; rfl, rfl⟩)
set_option maxHeartbeats 800000 in
theorem xf_Leave {W : World} {L : List Blk} (r : Nat) (x : Fm) (hx : x.Ok) (w now : Int) (hg : x.a.gs.length ≤ 1000000) : XF Tryz.prog W 64 #[.pointer (some ⟨r, 0, none⟩), .int .u32 w, .int .u64 now] (x.blks r L) (fun v L' => v = .int .i64 (leaveE x.a w) ∧ ∃ y : Fm, y.Ok ∧ y.a = leaveF x.a w now ∧ L' = y.blks r L) := by
  have hfr : ∀ L', (∀ z, z ∈ (r, Obj.cells x.cells.toArray 136 (0, 0)) :: (x.mb, x.mo) :: (x.wl ++ x.gl) → z ∈ L') → FR W L' r x := fun L' h => hx.fr h
  have hfr2 := hfr (x.blks r L) (fun z hz => by unfold Fm.blks; rw [← List.append_assoc]; exact List.mem_append_left L hz)
  obtain ⟨b, hb⟩ : ∃ b, isM x.a.ms w = b := ⟨_, rfl⟩
  have hmem := fun L' (h : ∀ z, z ∈ x.blks r L → z ∈ L') p (hr : Rs W L' p (ints .u32 [w])) => xf_mem (W := W) (L := L') r x hx (hfr2.mono h) p 1 1 [w] rfl hr (by decide) b (by simpa using hb)
  obtain ⟨⟨bound, sil, ms, held, no, who, at', heard, pend, wt, gs⟩, mb, mo, wp, wc, wl, gp, gc, gl⟩ := x
  have hx' := hx
  obtain ⟨hmp, hw, hgs, hnd, hbd, hwb, hmn⟩ := hx
  dsimp only at hmp hw hgs hnd hbd hwb hmn hb hg
  unfold Fm.blks Fm.cells at hmem ⊢
  dsimp only at hmem ⊢
  refine xf_enter (args := [_, _, _]) Tryz.func64 rfl Tryz.ntmps64 rfl ?_
  cases b with
  | false =>
    focus
      refine xc_seq ?_
      refine xc_region ?_
      refine xo_ef rfl (ef_box rfl fun r4 => ?_)
      refine xo_rd (rd_assign rfl) rfl ?_
      refine xo_nil ?_
      refine xq_seq ?_
      refine xc_seq ?_
      refine xc_seq ?_
      refine xc_region ?_
      refine xo_rd (rd_move rfl) rfl ?_
      refine xo_rd (rd_load1 rfl (Cl.o0 rfl)) rfl ?_
      refine xo_ef rfl (ef_buildL (T := 39) (len := 1) (s := 1) (cells := (ints .u32 [w]).toArray) rfl (by decide) (by decide) (by kernel_rfl) fun r10 => ?_)
      refine xo_ef rfl (ef_call rfl (XF.mono (hmem _ (by intro z hz; simp [hz]) _ (rs_one (List.Mem.head _))) ?_))
      rintro v L' ⟨rfl, rfl⟩
      refine xo_rd (rd_assign rfl) rfl ?_
      refine xo_nil ?_
      refine xq_seq ?_
      refine xc_seq ?_
      refine xc_region ?_
      refine xo_rd (rd_move rfl) rfl ?_
      refine xo_rd (rd_neq rfl rfl) rfl ?_
      refine xo_nil ?_
      refine xq_seq ?_
      refine xc_condt rfl ?_
      refine xc_seq ?_
      refine xc_region ?_
      refine xo_rd (rd_move rfl) rfl ?_
      refine xo_rd (rd_assign rfl) rfl ?_
      refine xo_nil ?_
      refine xq_seq ?_
      refine xc_ret ?_
      refine xq_then_ret ?_
    exact xq_sub (List.sublist_append_right [_, _] _) (xq_ret1 (.inl rfl) Tryz.results64 rfl ⟨by (rw [leaveE]; dsimp only; rw [hb]) <;> rfl, _, hx', by rw [leaveF]; dsimp only; rw [hb]; exact (if_neg (by decide)).symm, rfl⟩)
  | true =>
    focus
      refine xc_seq ?_
      refine xc_region ?_
      refine xo_ef rfl (ef_box rfl fun r4 => ?_)
      refine xo_rd (rd_assign rfl) rfl ?_
      refine xo_nil ?_
      refine xq_seq ?_
      refine xc_seq ?_
      refine xc_seq ?_
      refine xc_region ?_
      refine xo_rd (rd_move rfl) rfl ?_
      refine xo_rd (rd_load1 rfl (Cl.o0 rfl)) rfl ?_
      refine xo_ef rfl (ef_buildL (T := 39) (len := 1) (s := 1) (cells := (ints .u32 [w]).toArray) rfl (by decide) (by decide) (by kernel_rfl) fun r10 => ?_)
      refine xo_ef rfl (ef_call rfl (XF.mono (hmem _ (by intro z hz; simp [hz]) _ (rs_one (List.Mem.head _))) ?_))
      rintro v L' ⟨rfl, rfl⟩
      refine xo_rd (rd_assign rfl) rfl ?_
      refine xo_nil ?_
      refine xq_seq ?_
      refine xc_seq ?_
      refine xc_region ?_
      refine xo_rd (rd_move rfl) rfl ?_
      refine xo_rd (rd_neq rfl rfl) rfl ?_
      refine xo_nil ?_
      refine xq_seq ?_
      refine xc_condf rfl ?_
      refine xc_skip ?_
      refine xq_seq ?_
    have hE : leaveE ⟨bound, sil, ms, held, no, who, at', heard, pend, wt, gs⟩ w = 0 := by (rw [leaveE]; dsimp only; rw [hb]) <;> rfl
    have hmpl : (roleV ms w).isSome = true := by rw [isM_find, hb]
    have hfl : (wt.filter fun x => !decide (x = w)).length ≤ wt.length := List.length_filter_le ..
    obtain ⟨q, hq⟩ : ∃ q, holdsA ⟨bound, sil, ms, held, no, who, at', heard, pend, wt, gs⟩ w = q := ⟨_, rfl⟩
    refine xc_join (ι := Obj) (fun mo2 => MpIs .u32 mo2 (mupd (roleV ms) w none) (if (roleV ms w).isSome then ms.length - 1 else ms.length)) (fun mo2 => (r4, Obj.cells (Value.int .u32 w).cells 36 (0, 0)) :: (r, Obj.cells (fcl bound sil mb no who at' heard pend held wp wt.length wc gp gs.length gc).toArray 136 (0, 0)) :: (mb, mo2) :: (wl ++ (gl ++ L))) (fun mo2 => [(0, .pointer (some ⟨r, 0, none⟩)), (2, .int .u64 now), (4, .pointer (some ⟨r4, 0, none⟩))]) ?_ ?_
    · skip
      focus
        refine xc_drawM [0, 1, 2, 4, 0, 24] [0, 1, 2, 4, 0, 24] [] (by kernel_rfl) (by kernel_rfl) (by kernel_rfl) ?_
        refine xm_take 0 (m' := 1) rfl (by kernel_rfl) Sb.a (rd_move rfl) rfl (by kernel_rfl) ?_
        refine xm_take 1 (m' := 3) rfl (by kernel_rfl) Sb.a (rd_nilCheck rfl) rfl (by kernel_rfl) ?_
        refine xm_take 2 (m' := 7) rfl (by kernel_rfl) Sb.a (rd_fieldAddr rfl) rfl (by kernel_rfl) ?_
        refine xm_two 3 4 (mi := 15) (mk := 23) rfl rfl (by kernel_rfl) rfl rfl (by kernel_rfl) (by kernel_rfl) (ef_rd (rd_load1 rfl (Cl.o2 rfl)) ⟨Sb.a, ?_⟩) (ef_rd (rd_load1 rfl (Cl.o1 rfl)) ⟨Sb.a, ?_⟩)
        refine xm_one 4 (m' := 31) rfl (by kernel_rfl) rfl (by kernel_rfl) (ef_rd (rd_load1 rfl (Cl.o1 rfl)) ?_)
        refine ⟨Sb.a, ?_⟩
        refine xm_one 5 (m' := 63) rfl (by kernel_rfl) rfl (by kernel_rfl) (ef_delete [_, _, _] _ hmp rfl rfl rfl fun mo2 hmp2 => ?_)
        refine ⟨Sb.a, ?_⟩
        refine xm_done (by kernel_rfl) ?_
        rotate_left
        refine xm_one 3 (m' := 31) rfl (by kernel_rfl) rfl (by kernel_rfl) (ef_rd (rd_load1 rfl (Cl.o2 rfl)) ?_)
        refine ⟨Sb.a, ?_⟩
        refine xm_one 5 (m' := 63) rfl (by kernel_rfl) rfl (by kernel_rfl) (ef_delete [_, _, _] _ hmp rfl rfl rfl fun mo2 hmp2 => ?_)
        refine ⟨Sb.a, ?_⟩
        refine xm_done (by kernel_rfl) ?_
        rotate_left
      all_goals exact xq_sub (List.sublist_cons_self _ _) (xq_joined mo2 hmp2 rfl (by repeat (first | exact keep_nil | refine keep_cons rfl ?_)))
    intro mo2 hmp2
    have hdel := (xf_delf (W := W) (R := (r4, Obj.cells (Value.int .u32 w).cells 36 (0, 0)) :: (r, Obj.cells (fcl bound sil mb no who at' heard pend held wp wt.length wc gp gs.length gc).toArray 136 (0, 0)) :: (mb, mo2) :: (gl ++ L)) wp wt.length wc wt wl hw rfl (fun x => decide (x = w)) (by omega) r4 (fun l' x _ => xf_is47 x r4 w (Cl.own (List.mem_append_right _ List.mem_cons_self) rfl))).perm (perm_f3 wl (gl ++ L))
    focus
      refine xc_seq ?_
      refine xc_region ?_
      refine xo_rd (rd_move rfl) rfl ?_
      refine xo_rd (rd_move rfl) rfl ?_
      refine xo_rd (rd_nilCheck rfl) rfl ?_
      refine xo_rd (rd_fieldAddr rfl) rfl ?_
      refine xo_rd (rd_load1 rfl (Cl.o1 rfl)) rfl ?_
      refine xo_rd (rd_makeFunc rfl rfl) rfl ?_
      refine xo_ef rfl (ef_call rfl (XF.mono (hdel) ?_))
      rintro v L' ⟨wl2, rfl, hw2, rfl⟩
      refine xo_perm (perm_f3 wl2 (gl ++ L)).symm ?_
      refine xo_rd (rd_nilCheck rfl) rfl ?_
      refine xo_rd (rd_fieldAddr rfl) rfl ?_
      refine xo_ef rfl (ef_store1 [_] _ rfl rfl (by first | rfl | assumption) rfl rfl rfl ?_)
      refine xo_nil ?_
      refine xq_seq ?_
    have hx1 : (Fm.mk (outF ⟨bound, sil, ms, held, no, who, at', heard, pend, wt, gs⟩ w) mb mo2 wp wc wl2 gp gc gl).Ok := ⟨hmp2.cong (fun z => (roleV_out z).symm) (by rw [hmpl]; exact (out_len hnd hb).symm), hw2, hgs, out_nodup hnd, hbd, by dsimp only [outF]; omega, by dsimp only [outF]; have := List.length_filter_le (fun e => !(e.1 == w)) ms; omega⟩
    refine xc_sub (L' := (r4, Obj.cells (Value.int .u32 w).cells 36 (0, 0)) :: (Fm.mk (outF ⟨bound, sil, ms, held, no, who, at', heard, pend, wt, gs⟩ w) mb mo2 wp wc wl2 gp gc gl).blks r L) (List.Sublist.refl _) ?_
    have hol := fun L' h => xf_hol (W := W) (L := L') r _ (hx1.fr h) w q (by rw [← hq]; rfl)
    have hsb : ∀ z, z ∈ (r, Obj.cells (Fm.mk (outF ⟨bound, sil, ms, held, no, who, at', heard, pend, wt, gs⟩ w) mb mo2 wp wc wl2 gp gc gl).cells.toArray 136 (0, 0)) :: (mb, mo2) :: (wl2 ++ gl) → z ∈ (r4, Obj.cells (Value.int .u32 w).cells 36 (0, 0)) :: (Fm.mk (outF ⟨bound, sil, ms, held, no, who, at', heard, pend, wt, gs⟩ w) mb mo2 wp wc wl2 gp gc gl).blks r L := fun z hz => List.mem_cons_of_mem _ (by unfold Fm.blks; rw [← List.append_assoc]; exact List.mem_append_left L hz)
    cases q with
    | false =>
      focus
        refine xc_seq ?_
        refine xc_seq ?_
        refine xc_region ?_
        refine xo_rd (rd_move rfl) rfl ?_
        refine xo_rd (rd_load1 rfl (Cl.o0 rfl)) rfl ?_
        refine xo_ef rfl (ef_call rfl (XF.mono (hol _ hsb) ?_))
        rintro v L' ⟨rfl, rfl⟩
        refine xo_nil ?_
        refine xq_seq ?_
        refine xc_condf rfl ?_
        refine xc_skip ?_
        refine xq_seq ?_
        refine xc_seq ?_
        refine xc_region ?_
        refine xo_rd (rd_assign rfl) rfl ?_
        refine xo_nil ?_
        refine xq_seq ?_
        refine xc_ret ?_
      exact xq_sub (List.sublist_cons_self _ _) (xq_ret1 (.inl rfl) Tryz.results64 rfl ⟨by rw [hE], _, hx1, by rw [leaveF]; dsimp only; rw [hb, if_pos rfl, hq, if_neg (by decide)], rfl⟩)
    | true =>
      focus
        refine xc_seq ?_
        refine xc_seq ?_
        refine xc_region ?_
        refine xo_rd (rd_move rfl) rfl ?_
        refine xo_rd (rd_load1 rfl (Cl.o0 rfl)) rfl ?_
        refine xo_ef rfl (ef_call rfl (XF.mono (hol _ hsb) ?_))
        rintro v L' ⟨rfl, rfl⟩
        refine xo_nil ?_
        refine xq_seq ?_
        refine xc_condt rfl ?_
        refine xc_region ?_
        refine xo_rd (rd_move rfl) rfl ?_
        refine xo_rd (rd_move rfl) rfl ?_
      refine xo_sub (List.sublist_cons_self _ _) ?_
      focus
        refine xo_ef rfl (ef_call rfl (XF.mono (xf_end r _ hx1 now hg) ?_))
        rintro v L' ⟨rfl, y, hy, hya, rfl⟩
        refine xo_nil ?_
        refine xq_seq ?_
        refine xc_seq ?_
        refine xc_region ?_
        refine xo_rd (rd_assign rfl) rfl ?_
        refine xo_nil ?_
        refine xq_seq ?_
        refine xc_ret ?_
      exact xq_ret1 (.inl rfl) Tryz.results64 rfl ⟨by rw [hE], y, hy, by rw [hya, leaveF]; dsimp only; rw [hb, if_pos rfl, hq, if_pos rfl], rfl⟩
end Go.Proofs.YtmdeajdaeihniaaGreat.X
/-
  Chapter 13: what else may be asked of a floor: walks of my own.
-/
namespace Go.Proofs.YtmdeajdaeihniaaGreat.X
open Go Go.RowKit
set_option linter.unusedVariables false
set_option linter.unusedSimpArgs false
theorem ixOf_mem {l : List Int} {w : Int} (h : 0 ≤ ixOf l w) : w ∈ l := by
  unfold ixOf at h
  cases hf : l.findIdx? (· == w) with
  | none => rw [hf] at h; exact absurd h (by decide)
  | some i =>
    obtain ⟨hi, h1, _⟩ := List.findIdx?_eq_some_iff_getElem.1 hf
    exact (eq_of_beq h1) ▸ List.getElem_mem hi
theorem mem_ixOf {l : List Int} {w : Int} (h : w ∈ l) : 0 ≤ ixOf l w := by
  unfold ixOf
  cases hf : l.findIdx? (· == w) with
  | none => have := List.findIdx?_eq_none_iff.1 hf w h; simp at this
  | some i => exact Int.natCast_nonneg i
theorem Fm.sub {r : Nat} {x : Fm} {L : List Blk} : ∀ z, z ∈ (r, Obj.cells x.cells.toArray 136 (0, 0)) :: (x.mb, x.mo) :: (x.wl ++ x.gl) → z ∈ x.blks r L := fun z hz => by
  unfold Fm.blks; rw [← List.append_assoc]; exact List.mem_append_left L hz
theorem Fm.Ok.fr0 {W : World} {L L' : List Blk} {r : Nat} {x : Fm} (h : x.Ok) (hm : ∀ z, z ∈ x.blks r L → z ∈ L') : FR W L' r x := (h.fr (Fm.sub (L := L))).mono hm
theorem rs_cons {W : World} {L : List Blk} {r : Nat} {k : IntKind} {T : TypeId} {ws : List Int} : Rs W ((r, Obj.cells (ints k ws).toArray T (0, 0)) :: L) (some ⟨r, 0, none⟩) (ints k ws) := Rs.fresh List.mem_cons_self
set_option maxHeartbeats 800000 in
theorem xf_Release {W : World} {L : List Blk} (r : Nat) (x : Fm) (hx : x.Ok) (w now : Int) (hg : x.a.gs.length ≤ 1000000) : XF Tryz.prog W 80 #[.pointer (some ⟨r, 0, none⟩), .int .u32 w, .int .u64 now] (x.blks r L) (fun v L' => v = .int .i64 (relE x.a w) ∧ ∃ y : Fm, y.Ok ∧ y.a = relF x.a w now ∧ L' = y.blks r L) := by
  obtain ⟨b, hb⟩ : ∃ b, isM x.a.ms w = b := ⟨_, rfl⟩
  obtain ⟨q, hq⟩ : ∃ q, holdsA x.a w = q := ⟨_, rfl⟩
  have hmem := fun L' (h : ∀ z, z ∈ x.blks r L → z ∈ L') p (hr : Rs W L' p (ints .u32 [w])) => xf_mem (W := W) (L := L') r x hx (hx.fr0 h) p 1 1 [w] rfl hr (by decide) b (by simpa using hb)
  have hol := fun L' (h : ∀ z, z ∈ x.blks r L → z ∈ L') => xf_hol (W := W) (L := L') r x (hx.fr0 h) w q hq
  refine xf_enter (args := [_, _, _]) Tryz.func80 rfl Tryz.ntmps80 rfl ?_
  cases b with
  | false =>
    focus
      refine xc_seq ?_
      refine xc_region ?_
      refine xo_rd (rd_assign rfl) rfl ?_
      refine xo_nil ?_
      refine xq_seq ?_
      refine xc_seq ?_
      refine xc_region ?_
      refine xo_rd (rd_move rfl) rfl ?_
      refine xo_rd (rd_move rfl) rfl ?_
      refine xo_ef rfl (ef_buildL (T := 39) (len := 1) (s := 1) (cells := (ints .u32 [w]).toArray) rfl (by decide) (by decide) (by kernel_rfl) fun r10 => ?_)
      refine xo_ef rfl (ef_call rfl (XF.mono (hmem _ (by intro z hz; simp [hz]) _ rs_cons) ?_))
      rintro v L' ⟨rfl, rfl⟩
      refine xo_rd (rd_assign rfl) rfl ?_
      refine xo_nil ?_
      refine xq_seq ?_
      refine xc_seq ?_
      refine xc_block ?_
      refine xc_seq ?_
      refine xc_region ?_
      refine xo_rd (rd_move rfl) rfl ?_
      refine xo_rd (rd_neq rfl rfl) rfl ?_
      refine xo_rd (rd_assign rfl) rfl ?_
      refine xo_nil ?_
      refine xq_seq ?_
      refine xc_condt rfl ?_
      refine xc_seq ?_
      refine xc_region ?_
      refine xo_rd (rd_move rfl) rfl ?_
      refine xo_rd (rd_assign rfl) rfl ?_
      refine xo_nil ?_
      refine xq_seq ?_
      refine xc_ret ?_
      refine xq_block_ret ?_
      refine xq_then_ret ?_
    have hE : relE x.a w = 130 := by unfold relE; rw [hb]; rfl
    exact xq_sub (List.sublist_cons_self _ _) (xq_ret1 (.inl rfl) Tryz.results80 rfl ⟨by rw [hE]; rfl, x, hx, by rw [relF, hE]; rfl, rfl⟩)
  | true =>
    cases q with
    | false =>
      focus
        refine xc_seq ?_
        refine xc_region ?_
        refine xo_rd (rd_assign rfl) rfl ?_
        refine xo_nil ?_
        refine xq_seq ?_
        refine xc_seq ?_
        refine xc_region ?_
        refine xo_rd (rd_move rfl) rfl ?_
        refine xo_rd (rd_move rfl) rfl ?_
        refine xo_ef rfl (ef_buildL (T := 39) (len := 1) (s := 1) (cells := (ints .u32 [w]).toArray) rfl (by decide) (by decide) (by kernel_rfl) fun r10 => ?_)
        refine xo_ef rfl (ef_call rfl (XF.mono (hmem _ (by intro z hz; simp [hz]) _ rs_cons) ?_))
        rintro v L' ⟨rfl, rfl⟩
        refine xo_rd (rd_assign rfl) rfl ?_
        refine xo_nil ?_
        refine xq_seq ?_
        refine xc_seq ?_
        refine xc_block ?_
        refine xc_seq ?_
        refine xc_region ?_
        refine xo_rd (rd_move rfl) rfl ?_
        refine xo_rd (rd_neq rfl rfl) rfl ?_
        refine xo_rd (rd_assign rfl) rfl ?_
        refine xo_nil ?_
        refine xq_seq ?_
        refine xc_condf rfl ?_
        refine xc_seq ?_
        refine xc_region ?_
        refine xo_rd (rd_move rfl) rfl ?_
        refine xo_rd (rd_move rfl) rfl ?_
        refine xo_ef rfl (ef_call rfl (XF.mono (hol _ (by intro z hz; simp [hz])) ?_))
        rintro v L' ⟨rfl, rfl⟩
        refine xo_rd (rd_not rfl) rfl ?_
        refine xo_rd (rd_assign rfl) rfl ?_
        refine xo_nil ?_
        refine xq_seq ?_
        refine xc_condt rfl ?_
        refine xc_seq ?_
        refine xc_region ?_
        refine xo_rd (rd_assign rfl) rfl ?_
        refine xo_nil ?_
        refine xq_seq ?_
        refine xc_ret ?_
        refine xq_block_ret ?_
        refine xq_then_ret ?_
      have hE : relE x.a w = 133 := by unfold relE; rw [hb, hq]; rfl
      exact xq_sub (List.sublist_cons_self _ _) (xq_ret1 (.inl rfl) Tryz.results80 rfl ⟨by rw [hE], x, hx, by rw [relF, hE]; rfl, rfl⟩)
    | true =>
      focus
        refine xc_seq ?_
        refine xc_region ?_
        refine xo_rd (rd_assign rfl) rfl ?_
        refine xo_nil ?_
        refine xq_seq ?_
        refine xc_seq ?_
        refine xc_region ?_
        refine xo_rd (rd_move rfl) rfl ?_
        refine xo_rd (rd_move rfl) rfl ?_
        refine xo_ef rfl (ef_buildL (T := 39) (len := 1) (s := 1) (cells := (ints .u32 [w]).toArray) rfl (by decide) (by decide) (by kernel_rfl) fun r10 => ?_)
        refine xo_ef rfl (ef_call rfl (XF.mono (hmem _ (by intro z hz; simp [hz]) _ rs_cons) ?_))
        rintro v L' ⟨rfl, rfl⟩
        refine xo_rd (rd_assign rfl) rfl ?_
        refine xo_nil ?_
        refine xq_seq ?_
        refine xc_seq ?_
        refine xc_block ?_
        refine xc_seq ?_
        refine xc_region ?_
        refine xo_rd (rd_move rfl) rfl ?_
        refine xo_rd (rd_neq rfl rfl) rfl ?_
        refine xo_rd (rd_assign rfl) rfl ?_
        refine xo_nil ?_
        refine xq_seq ?_
        refine xc_condf rfl ?_
        refine xc_seq ?_
        refine xc_region ?_
        refine xo_rd (rd_move rfl) rfl ?_
        refine xo_rd (rd_move rfl) rfl ?_
        refine xo_ef rfl (ef_call rfl (XF.mono (hol _ (by intro z hz; simp [hz])) ?_))
        rintro v L' ⟨rfl, rfl⟩
        refine xo_rd (rd_not rfl) rfl ?_
        refine xo_rd (rd_assign rfl) rfl ?_
        refine xo_nil ?_
        refine xq_seq ?_
        refine xc_condf rfl ?_
        refine xc_skip ?_
        refine xq_block ?_
        refine xq_seq ?_
      refine xc_sub (List.sublist_cons_self _ _) ?_
      focus
        refine xc_seq ?_
        refine xc_region ?_
        refine xo_rd (rd_move rfl) rfl ?_
        refine xo_rd (rd_move rfl) rfl ?_
        refine xo_ef rfl (ef_call rfl (XF.mono (xf_end r _ hx now hg) ?_))
        rintro v L' ⟨rfl, y, hy, hya, rfl⟩
        refine xo_nil ?_
        refine xq_seq ?_
        refine xc_seq ?_
        refine xc_region ?_
        refine xo_rd (rd_assign rfl) rfl ?_
        refine xo_nil ?_
        refine xq_seq ?_
        refine xc_ret ?_
      have hE : relE x.a w = 0 := by unfold relE; rw [hb, hq]; rfl
      exact xq_ret1 (.inl rfl) Tryz.results80 rfl ⟨by rw [hE], y, hy, by rw [hya, relF, hE]; rfl, rfl⟩
theorem roleV_mod (l : List (Int × Bool)) (w : Int) : (roleV l w).getD (.int .i64 0) = .int .i64 (if modA l w = true then 1 else 0) := by
  unfold roleV modA
  cases l.find? fun e => e.1 == w <;> rfl
set_option maxHeartbeats 800000 in
theorem xf_Revoke {W : World} {L : List Blk} (r : Nat) (x : Fm) (hx : x.Ok) (bw w now : Int) (hg : x.a.gs.length ≤ 1000000) : XF Tryz.prog W 81 #[.pointer (some ⟨r, 0, none⟩), .int .u32 bw, .int .u32 w, .int .u64 now] (x.blks r L) (fun v L' => v = .int .i64 (revE x.a bw w) ∧ ∃ y : Fm, y.Ok ∧ y.a = revF x.a bw w now ∧ L' = y.blks r L) := by
  obtain ⟨b, hb⟩ : ∃ b, (isM x.a.ms bw && isM x.a.ms w) = b := ⟨_, rfl⟩
  obtain ⟨md, hmd⟩ : ∃ md, modA x.a.ms bw = md := ⟨_, rfl⟩
  have hmem := fun L' (h : ∀ z, z ∈ x.blks r L → z ∈ L') p (hr : Rs W L' p (ints .u32 [bw, w])) => xf_mem (W := W) (L := L') r x hx (hx.fr0 h) p 2 2 [bw, w] rfl hr (by decide) b (by simpa using hb)
  have hfr := fun L' (h : ∀ z, z ∈ x.blks r L → z ∈ L') => hx.fr0 (W := W) (L' := L') h
  have hrv : (roleV x.a.ms bw).getD (.int .i64 0) = .int .i64 (if md = true then 1 else 0) := by rw [roleV_mod, hmd]
  refine xf_enter (args := [_, _, _, _]) Tryz.func81 rfl Tryz.ntmps81 rfl ?_
  cases b with
  | false =>
    focus
      refine xc_seq ?_
      refine xc_region ?_
      refine xo_rd (rd_assign rfl) rfl ?_
      refine xo_nil ?_
      refine xq_seq ?_
      refine xc_seq ?_
      refine xc_region ?_
      refine xo_rd (rd_move rfl) rfl ?_
      refine xo_rd (rd_move rfl) rfl ?_
      refine xo_rd (rd_move rfl) rfl ?_
      refine xo_ef rfl (ef_buildL (T := 39) (len := 2) (s := 1) (cells := (ints .u32 [bw, w]).toArray) rfl (by decide) (by decide) (by kernel_rfl) fun r13 => ?_)
      refine xo_ef rfl (ef_call rfl (XF.mono (hmem _ (by intro z hz; simp [hz]) _ rs_cons) ?_))
      rintro v L' ⟨rfl, rfl⟩
      refine xo_rd (rd_assign rfl) rfl ?_
      refine xo_nil ?_
      refine xq_seq ?_
      refine xc_seq ?_
      refine xc_block ?_
      refine xc_seq ?_
      refine xc_region ?_
      refine xo_rd (rd_move rfl) rfl ?_
      refine xo_rd (rd_neq rfl rfl) rfl ?_
      refine xo_rd (rd_assign rfl) rfl ?_
      refine xo_nil ?_
      refine xq_seq ?_
      refine xc_condt rfl ?_
      refine xc_seq ?_
      refine xc_region ?_
      refine xo_rd (rd_move rfl) rfl ?_
      refine xo_rd (rd_assign rfl) rfl ?_
      refine xo_nil ?_
      refine xq_seq ?_
      refine xc_ret ?_
      refine xq_block_ret ?_
      refine xq_then_ret ?_
    have hE : revE x.a bw w = 130 := by
      unfold revE
      rw [if_neg]
      rintro ⟨h1, h2⟩
      rw [h1, h2] at hb; cases hb
    exact xq_sub (List.sublist_cons_self _ _) (xq_ret1 (.inl rfl) Tryz.results81 rfl ⟨by rw [hE]; rfl, x, hx, by rw [revF, hE]; rfl, rfl⟩)
  | true =>
    have hb2 := Bool.and_eq_true_iff.1 hb
    cases md with
    | false =>
      focus
        refine xc_seq ?_
        refine xc_region ?_
        refine xo_rd (rd_assign rfl) rfl ?_
        refine xo_nil ?_
        refine xq_seq ?_
        refine xc_seq ?_
        refine xc_region ?_
        refine xo_rd (rd_move rfl) rfl ?_
        refine xo_rd (rd_move rfl) rfl ?_
        refine xo_rd (rd_move rfl) rfl ?_
        refine xo_ef rfl (ef_buildL (T := 39) (len := 2) (s := 1) (cells := (ints .u32 [bw, w]).toArray) rfl (by decide) (by decide) (by kernel_rfl) fun r13 => ?_)
        refine xo_ef rfl (ef_call rfl (XF.mono (hmem _ (by intro z hz; simp [hz]) _ rs_cons) ?_))
        rintro v L' ⟨rfl, rfl⟩
        refine xo_rd (rd_assign rfl) rfl ?_
        refine xo_nil ?_
        refine xq_seq ?_
        refine xc_seq ?_
        refine xc_block ?_
        refine xc_seq ?_
        refine xc_region ?_
        refine xo_rd (rd_move rfl) rfl ?_
        refine xo_rd (rd_neq rfl rfl) rfl ?_
        refine xo_rd (rd_assign rfl) rfl ?_
        refine xo_nil ?_
        refine xq_seq ?_
        refine xc_condf rfl ?_
        refine xc_seq ?_
        refine xc_region ?_
        refine xo_rd (rd_move rfl) rfl ?_
        refine xo_rd (rd_nilCheck rfl) rfl ?_
        refine xo_rd (rd_fieldAddr rfl) rfl ?_
        refine xo_rd (rd_load1 rfl ((hfr _ (by intro z hz; simp [hz])).cl 2 _ rfl)) rfl ?_
        refine xo_rd (rd_move rfl) rfl ?_
        refine xo_rd (rd_cast (v' := .int .i64 0) (rd_lookup hx.mp rfl rfl (hfr _ (by intro z hz; simp [hz])).kn) hrv) rfl ?_
        refine xo_rd (rd_neq rfl rfl) rfl ?_
        refine xo_rd (rd_assign rfl) rfl ?_
        refine xo_nil ?_
        refine xq_seq ?_
        refine xc_condt rfl ?_
        refine xc_seq ?_
        refine xc_region ?_
        refine xo_rd (rd_assign rfl) rfl ?_
        refine xo_nil ?_
        refine xq_seq ?_
        refine xc_ret ?_
        refine xq_block_ret ?_
        refine xq_then_ret ?_
      have hE : revE x.a bw w = 134 := by unfold revE; rw [if_pos hb2, hmd]; rfl
      exact xq_sub (List.sublist_cons_self _ _) (xq_ret1 (.inl rfl) Tryz.results81 rfl ⟨by rw [hE], x, hx, by rw [revF, hE]; rfl, rfl⟩)
    | true =>
      focus
        refine xc_seq ?_
        refine xc_region ?_
        refine xo_rd (rd_assign rfl) rfl ?_
        refine xo_nil ?_
        refine xq_seq ?_
        refine xc_seq ?_
        refine xc_region ?_
        refine xo_rd (rd_move rfl) rfl ?_
        refine xo_rd (rd_move rfl) rfl ?_
        refine xo_rd (rd_move rfl) rfl ?_
        refine xo_ef rfl (ef_buildL (T := 39) (len := 2) (s := 1) (cells := (ints .u32 [bw, w]).toArray) rfl (by decide) (by decide) (by kernel_rfl) fun r13 => ?_)
        refine xo_ef rfl (ef_call rfl (XF.mono (hmem _ (by intro z hz; simp [hz]) _ rs_cons) ?_))
        rintro v L' ⟨rfl, rfl⟩
        refine xo_rd (rd_assign rfl) rfl ?_
        refine xo_nil ?_
        refine xq_seq ?_
        refine xc_seq ?_
        refine xc_block ?_
        refine xc_seq ?_
        refine xc_region ?_
        refine xo_rd (rd_move rfl) rfl ?_
        refine xo_rd (rd_neq rfl rfl) rfl ?_
        refine xo_rd (rd_assign rfl) rfl ?_
        refine xo_nil ?_
        refine xq_seq ?_
        refine xc_condf rfl ?_
        refine xc_seq ?_
        refine xc_region ?_
        refine xo_rd (rd_move rfl) rfl ?_
        refine xo_rd (rd_nilCheck rfl) rfl ?_
        refine xo_rd (rd_fieldAddr rfl) rfl ?_
        refine xo_rd (rd_load1 rfl ((hfr _ (by intro z hz; simp [hz])).cl 2 _ rfl)) rfl ?_
        refine xo_rd (rd_move rfl) rfl ?_
        refine xo_rd (rd_cast (v' := .int .i64 1) (rd_lookup hx.mp rfl rfl (hfr _ (by intro z hz; simp [hz])).kn) hrv) rfl ?_
        refine xo_rd (rd_neq rfl rfl) rfl ?_
        refine xo_rd (rd_assign rfl) rfl ?_
        refine xo_nil ?_
        refine xq_seq ?_
        refine xc_condf rfl ?_
        refine xc_skip ?_
        refine xq_block ?_
        refine xq_seq ?_
      refine xc_sub (List.sublist_cons_self _ _) ?_
      focus
        refine xc_seq ?_
        refine xc_region ?_
        refine xo_rd (rd_move rfl) rfl ?_
        refine xo_rd (rd_move rfl) rfl ?_
        refine xo_rd (rd_move rfl) rfl ?_
        refine xo_ef rfl (ef_call rfl (XF.mono (xf_Release r x hx w now hg) ?_))
        rintro v L' ⟨rfl, y, hy, hya, rfl⟩
        refine xo_rd (rd_assign rfl) rfl ?_
        refine xo_nil ?_
        refine xq_seq ?_
        refine xc_ret ?_
      have hE : revE x.a bw w = relE x.a w := by unfold revE; rw [if_pos hb2, hmd]; rfl
      exact xq_ret1 (.inl rfl) Tryz.results81 rfl ⟨by rw [hE], y, hy, by rw [hya, revF, hE]; rfl, rfl⟩
set_option maxHeartbeats 800000 in
theorem xf_Request {W : World} {L : List Blk} (r : Nat) (x : Fm) (hx : x.Ok) (w now : Int) (hg : x.a.gs.length ≤ 1000000) : XF Tryz.prog W 59 #[.pointer (some ⟨r, 0, none⟩), .int .u32 w, .int .u64 now] (x.blks r L) (fun v L' => v = .int .i64 (reqE x.a w) ∧ ∃ y : Fm, y.Ok ∧ y.a = reqF x.a w now ∧ L' = y.blks r L) := by
  obtain ⟨b, hb⟩ : ∃ b, isM x.a.ms w = b := ⟨_, rfl⟩
  obtain ⟨q, hq⟩ : ∃ q, holdsA x.a w = q := ⟨_, rfl⟩
  obtain ⟨i, hi⟩ : ∃ i, ixOf x.a.wt w = i := ⟨_, rfl⟩
  have hmem := fun L' (h : ∀ z, z ∈ x.blks r L → z ∈ L') p (hr : Rs W L' p (ints .u32 [w])) => xf_mem (W := W) (L := L') r x hx (hx.fr0 h) p 1 1 [w] rfl hr (by decide) b (by simpa using hb)
  have hol := fun L' (h : ∀ z, z ∈ x.blks r L → z ∈ L') => xf_hol (W := W) (L := L') r x (hx.fr0 h) w q hq
  have hwl : x.a.wt.length ≤ 32 := by have := hx.wb; have := hx.bd; omega
  have hct := fun L' (h : ∀ z, z ∈ x.blks r L → z ∈ L') => xf_contains (W := W) (L := L') x.wp x.a.wt.length x.wc x.a.wt w rfl (hx.fr0 h).w (by omega)
  rw [hi] at hct
  refine xf_enter (args := [_, _, _]) Tryz.func59 rfl Tryz.ntmps59 rfl ?_
  cases b with
  | false =>
    focus
      refine xc_seq ?_
      refine xc_region ?_
      refine xo_rd (rd_assign rfl) rfl ?_
      refine xo_nil ?_
      refine xq_seq ?_
      refine xc_seq ?_
      refine xc_region ?_
      refine xo_rd (rd_move rfl) rfl ?_
      refine xo_rd (rd_move rfl) rfl ?_
      refine xo_ef rfl (ef_buildL (T := 39) (len := 1) (s := 1) (cells := (ints .u32 [w]).toArray) rfl (by decide) (by decide) (by kernel_rfl) fun r10 => ?_)
      refine xo_ef rfl (ef_call rfl (XF.mono (hmem _ (by intro z hz; simp [hz]) _ rs_cons) ?_))
      rintro v L' ⟨rfl, rfl⟩
      refine xo_rd (rd_assign rfl) rfl ?_
      refine xo_nil ?_
      refine xq_seq ?_
      refine xc_seq ?_
      refine xc_block ?_
      refine xc_seq ?_
      refine xc_region ?_
      refine xo_rd (rd_move rfl) rfl ?_
      refine xo_rd (rd_neq rfl rfl) rfl ?_
      refine xo_rd (rd_assign rfl) rfl ?_
      refine xo_nil ?_
      refine xq_seq ?_
      refine xc_condt rfl ?_
      refine xc_seq ?_
      refine xc_region ?_
      refine xo_rd (rd_move rfl) rfl ?_
      refine xo_rd (rd_assign rfl) rfl ?_
      refine xo_nil ?_
      refine xq_seq ?_
      refine xc_ret ?_
      refine xq_block_ret ?_
      refine xq_then_ret ?_
    have hE : reqE x.a w = 130 := by unfold reqE; rw [hb]; rfl
    exact xq_sub (List.sublist_cons_self _ _) (xq_ret1 (.inl rfl) Tryz.results59 rfl ⟨by rw [hE]; rfl, x, hx, by rw [reqF, hE]; rfl, rfl⟩)
  | true =>
    by_cases hin : q = true ∨ 0 ≤ i
    · have hE : reqE x.a w = 132 := by
        unfold reqE; rw [hb, if_pos rfl, if_pos]
        rcases hin with h | h
        · exact .inl (hq.trans h)
        · exact .inr (ixOf_mem (hi ▸ h))
      rcases hin with h | h
      · subst h
        focus
          refine xc_seq ?_
          refine xc_region ?_
          refine xo_rd (rd_assign rfl) rfl ?_
          refine xo_nil ?_
          refine xq_seq ?_
          refine xc_seq ?_
          refine xc_region ?_
          refine xo_rd (rd_move rfl) rfl ?_
          refine xo_rd (rd_move rfl) rfl ?_
          refine xo_ef rfl (ef_buildL (T := 39) (len := 1) (s := 1) (cells := (ints .u32 [w]).toArray) rfl (by decide) (by decide) (by kernel_rfl) fun r10 => ?_)
          refine xo_ef rfl (ef_call rfl (XF.mono (hmem _ (by intro z hz; simp [hz]) _ rs_cons) ?_))
          rintro v L' ⟨rfl, rfl⟩
          refine xo_rd (rd_assign rfl) rfl ?_
          refine xo_nil ?_
          refine xq_seq ?_
          refine xc_seq ?_
          refine xc_block ?_
          refine xc_seq ?_
          refine xc_region ?_
          refine xo_rd (rd_move rfl) rfl ?_
          refine xo_rd (rd_neq rfl rfl) rfl ?_
          refine xo_rd (rd_assign rfl) rfl ?_
          refine xo_nil ?_
          refine xq_seq ?_
          refine xc_condf rfl ?_
          refine xc_seq ?_
          refine xc_region ?_
          refine xo_rd (rd_move rfl) rfl ?_
          refine xo_rd (rd_move rfl) rfl ?_
          refine xo_ef rfl (ef_call rfl (XF.mono (hol _ (by intro z hz; simp [hz])) ?_))
          rintro v L' ⟨rfl, rfl⟩
          refine xo_rd (rd_move rfl) rfl ?_
          refine xo_gskip rfl rfl rfl rfl ?_
          refine xo_gskip rfl rfl rfl rfl ?_
          refine xo_gskip rfl rfl rfl rfl ?_
          refine xo_gskip rfl rfl rfl rfl ?_
          refine xo_gskip rfl rfl rfl rfl ?_
          refine xo_gskip rfl rfl rfl rfl ?_
          refine xo_rd (rd_pickt rfl rfl) rfl ?_
          refine xo_rd (rd_assign rfl) rfl ?_
          refine xo_nil ?_
          refine xq_seq ?_
          refine xc_condt rfl ?_
          refine xc_seq ?_
          refine xc_region ?_
          refine xo_rd (rd_assign rfl) rfl ?_
          refine xo_nil ?_
          refine xq_seq ?_
          refine xc_ret ?_
          refine xq_block_ret ?_
          refine xq_then_ret ?_
        exact xq_sub (List.sublist_cons_self _ _) (xq_ret1 (.inl rfl) Tryz.results59 rfl ⟨by rw [hE], x, hx, by rw [reqF, hE]; rfl, rfl⟩)
      · skip
        focus
          refine xc_seq ?_
          refine xc_region ?_
          refine xo_rd (rd_assign rfl) rfl ?_
          refine xo_nil ?_
          refine xq_seq ?_
          refine xc_seq ?_
          refine xc_region ?_
          refine xo_rd (rd_move rfl) rfl ?_
          refine xo_rd (rd_move rfl) rfl ?_
          refine xo_ef rfl (ef_buildL (T := 39) (len := 1) (s := 1) (cells := (ints .u32 [w]).toArray) rfl (by decide) (by decide) (by kernel_rfl) fun r10 => ?_)
          refine xo_ef rfl (ef_call rfl (XF.mono (hmem _ (by intro z hz; simp [hz]) _ rs_cons) ?_))
          rintro v L' ⟨rfl, rfl⟩
          refine xo_rd (rd_assign rfl) rfl ?_
          refine xo_nil ?_
          refine xq_seq ?_
          refine xc_seq ?_
          refine xc_block ?_
          refine xc_seq ?_
          refine xc_region ?_
          refine xo_rd (rd_move rfl) rfl ?_
          refine xo_rd (rd_neq rfl rfl) rfl ?_
          refine xo_rd (rd_assign rfl) rfl ?_
          refine xo_nil ?_
          refine xq_seq ?_
          refine xc_condf rfl ?_
          refine xc_seq ?_
          refine xc_region ?_
          refine xo_rd (rd_move rfl) rfl ?_
          refine xo_rd (rd_move rfl) rfl ?_
          refine xo_ef rfl (ef_call rfl (XF.mono (hol _ (by intro z hz; simp [hz])) ?_))
          rintro v L' ⟨rfl, rfl⟩
          refine xo_rd (rd_move rfl) rfl ?_
          refine xo_split 20 rfl (fun hz1 => ?_) (fun hz1 => ?_)
          refine xo_gskip rfl rfl rfl rfl ?_
          refine xo_gskip rfl rfl rfl rfl ?_
          refine xo_gskip rfl rfl rfl rfl ?_
          refine xo_gskip rfl rfl rfl rfl ?_
          refine xo_gskip rfl rfl rfl rfl ?_
          refine xo_gskip rfl rfl rfl rfl ?_
          refine xo_rd (rd_pickt rfl rfl) rfl ?_
          refine xo_rd (rd_assign rfl) rfl ?_
          refine xo_nil ?_
          refine xq_seq ?_
          refine xc_condt rfl ?_
          refine xc_seq ?_
          refine xc_region ?_
          refine xo_rd (rd_assign rfl) rfl ?_
          refine xo_nil ?_
          refine xq_seq ?_
          refine xc_ret ?_
          refine xq_block_ret ?_
          refine xq_then_ret ?_
          rotate_left
          refine xo_grd rfl rfl (rd_move rfl) rfl ?_
          refine xo_grd rfl rfl (rd_nilCheck rfl) rfl ?_
          refine xo_grd rfl rfl (rd_fieldAddr rfl) rfl ?_
          refine xo_grd rfl rfl (rd_load1 rfl ((hx.fr0 (L := L) (by intro z hz; simp [hz])).cl 9 _ rfl)) rfl ?_
          refine xo_grd rfl rfl (rd_move rfl) rfl ?_
          refine xo_gef rfl rfl rfl (ef_call rfl (XF.mono (hct _ (by intro z hz; simp [hz])) ?_))
          rintro v L' ⟨rfl, rfl⟩
          refine xo_rd (rd_pickf rfl rfl) rfl ?_
          refine xo_rd (rd_assign rfl) rfl ?_
          refine xo_nil ?_
          refine xq_seq ?_
          refine xc_dec rfl (fun hz2 => ?_) (fun hz2 => (by exfalso; omega))
          refine xc_seq ?_
          refine xc_region ?_
          refine xo_rd (rd_assign rfl) rfl ?_
          refine xo_nil ?_
          refine xq_seq ?_
          refine xc_ret ?_
          refine xq_block_ret ?_
          refine xq_then_ret ?_
          rotate_left
        all_goals exact xq_sub (List.sublist_cons_self _ _) (xq_ret1 (.inl rfl) Tryz.results59 rfl ⟨by rw [hE], x, hx, by rw [reqF, hE]; rfl, rfl⟩)
    · have hqf : q = false := by cases q with | false => rfl | true => exact absurd (.inl rfl) hin
      have hif : ¬ 0 ≤ i := fun h => hin (.inr h)
      subst hqf
      have hno : ¬ (holdsA x.a w = true ∨ w ∈ x.a.wt) := by
        rintro (h | h)
        · rw [hq] at h; cases h
        · exact hif (hi ▸ mem_ixOf h)
      focus
        refine xc_seq ?_
        refine xc_region ?_
        refine xo_rd (rd_assign rfl) rfl ?_
        refine xo_nil ?_
        refine xq_seq ?_
        refine xc_seq ?_
        refine xc_region ?_
        refine xo_rd (rd_move rfl) rfl ?_
        refine xo_rd (rd_move rfl) rfl ?_
        refine xo_ef rfl (ef_buildL (T := 39) (len := 1) (s := 1) (cells := (ints .u32 [w]).toArray) rfl (by decide) (by decide) (by kernel_rfl) fun r10 => ?_)
        refine xo_ef rfl (ef_call rfl (XF.mono (hmem _ (by intro z hz; simp [hz]) _ rs_cons) ?_))
        rintro v L' ⟨rfl, rfl⟩
        refine xo_rd (rd_assign rfl) rfl ?_
        refine xo_nil ?_
        refine xq_seq ?_
        refine xc_seq ?_
        refine xc_block ?_
        refine xc_seq ?_
        refine xc_region ?_
        refine xo_rd (rd_move rfl) rfl ?_
        refine xo_rd (rd_neq rfl rfl) rfl ?_
        refine xo_rd (rd_assign rfl) rfl ?_
        refine xo_nil ?_
        refine xq_seq ?_
        refine xc_condf rfl ?_
        refine xc_seq ?_
        refine xc_region ?_
        refine xo_rd (rd_move rfl) rfl ?_
        refine xo_rd (rd_move rfl) rfl ?_
        refine xo_ef rfl (ef_call rfl (XF.mono (hol _ (by intro z hz; simp [hz])) ?_))
        rintro v L' ⟨rfl, rfl⟩
        refine xo_rd (rd_move rfl) rfl ?_
        refine xo_grd rfl rfl (rd_move rfl) rfl ?_
        refine xo_grd rfl rfl (rd_nilCheck rfl) rfl ?_
        refine xo_grd rfl rfl (rd_fieldAddr rfl) rfl ?_
        refine xo_grd rfl rfl (rd_load1 rfl ((hx.fr0 (L := L) (by intro z hz; simp [hz])).cl 9 _ rfl)) rfl ?_
        refine xo_grd rfl rfl (rd_move rfl) rfl ?_
        refine xo_gef rfl rfl rfl (ef_call rfl (XF.mono (hct _ (by intro z hz; simp [hz])) ?_))
        rintro v L' ⟨rfl, rfl⟩
        refine xo_rd (rd_pickf rfl rfl) rfl ?_
        refine xo_rd (rd_assign rfl) rfl ?_
        refine xo_nil ?_
        refine xq_seq ?_
        refine xc_dec rfl (fun hz1 => (by exfalso; omega)) (fun hz1 => ?_)
      refine xc_sub (List.sublist_cons_self _ _) ?_
      clear hmem hol hct
      obtain ⟨⟨bound, sil, ms, held, no, who, at', heard, pend, wt, gs⟩, mb, mo, wp, wc, wl, gp, gc, gl⟩ := x
      have hx' := hx
      obtain ⟨hmp, hw, hgs, hnd, hbd, hwb, hmn⟩ := hx
      dsimp only at hmp hw hgs hnd hbd hwb hmn hb hg hwl hno
      cases held with
      | false =>
        have hE : reqE ⟨bound, sil, ms, false, no, who, at', heard, pend, wt, gs⟩ w = 0 := by unfold reqE; dsimp only; rw [hb, if_pos rfl, if_neg hno]; rfl
        focus
          refine xc_seq ?_
          refine xc_region ?_
          refine xo_rd (rd_move rfl) rfl ?_
          refine xo_rd (rd_nilCheck rfl) rfl ?_
          refine xo_rd (rd_fieldAddr rfl) rfl ?_
          refine xo_rd (rd_fieldAddr rfl) rfl ?_
          refine xo_rd (rd_load1 rfl ((hx'.fr0 (L := L) (by intro z hz; simp [hz])).cl 8 _ rfl)) rfl ?_
          refine xo_rd (rd_not rfl) rfl ?_
          refine xo_rd (rd_assign rfl) rfl ?_
          refine xo_nil ?_
          refine xq_seq ?_
          refine xc_condt rfl ?_
          refine xc_seq ?_
          refine xc_region ?_
          refine xo_rd (rd_move rfl) rfl ?_
          refine xo_rd (rd_move rfl) rfl ?_
          refine xo_rd (rd_move rfl) rfl ?_
          refine xo_ef rfl (ef_call rfl (XF.mono (xf_grant r _ hx' w now hg) ?_))
          rintro v L' ⟨rfl, y, hy, hya, rfl⟩
          refine xo_nil ?_
          refine xq_seq ?_
          refine xc_seq ?_
          refine xc_region ?_
          refine xo_rd (rd_assign rfl) rfl ?_
          refine xo_nil ?_
          refine xq_seq ?_
          refine xc_ret ?_
          refine xq_block_ret ?_
          refine xq_then_ret ?_
        exact xq_ret1 (.inl rfl) Tryz.results59 rfl ⟨by rw [hE], y, hy, by rw [hya, reqF, hE]; rfl, rfl⟩
      | true =>
        unfold Fm.blks Fm.cells
        dsimp only
        focus
          refine xc_seq ?_
          refine xc_region ?_
          refine xo_rd (rd_move rfl) rfl ?_
          refine xo_rd (rd_nilCheck rfl) rfl ?_
          refine xo_rd (rd_fieldAddr rfl) rfl ?_
          refine xo_rd (rd_fieldAddr rfl) rfl ?_
          refine xo_rd (rd_load1 rfl (Cl.o0 rfl)) rfl ?_
          refine xo_rd (rd_not rfl) rfl ?_
          refine xo_rd (rd_assign rfl) rfl ?_
          refine xo_nil ?_
          refine xq_seq ?_
          refine xc_condf rfl ?_
          refine xc_seq ?_
          refine xc_drawML [0, 1, 2, 4, 8, 0, 32, 64, 128, 272, 512] [0, 1, 2, 4, 8, 0, 32, 64, 128, 272, 512] (by kernel_rfl) (by kernel_rfl) (by kernel_rfl) ?_
          refine xm_take 0 (m' := 1) rfl (by kernel_rfl) Sb.a (rd_move rfl) rfl (by kernel_rfl) ?_
          refine xm_take 1 (m' := 3) rfl (by kernel_rfl) Sb.a (rd_nilCheck rfl) rfl (by kernel_rfl) ?_
          refine xm_take 2 (m' := 7) rfl (by kernel_rfl) Sb.a (rd_fieldAddr rfl) rfl (by kernel_rfl) ?_
          refine xm_take 3 (m' := 15) rfl (by kernel_rfl) Sb.a (rd_load1 rfl (Cl.o0 rfl)) rfl (by kernel_rfl) ?_
          refine xm_take 4 (m' := 31) rfl (by kernel_rfl) Sb.a (rd_len rfl) rfl (by kernel_rfl) ?_
          refine xm_take 5 (m' := 63) rfl (by kernel_rfl) Sb.a (rd_move rfl) rfl (by kernel_rfl) ?_
          refine xm_take 6 (m' := 127) rfl (by kernel_rfl) Sb.a (rd_nilCheck rfl) rfl (by kernel_rfl) ?_
          refine xm_take 7 (m' := 255) rfl (by kernel_rfl) Sb.a (rd_fieldAddr rfl) rfl (by kernel_rfl) ?_
          refine xm_take 8 (m' := 511) rfl (by kernel_rfl) Sb.a (rd_load1 rfl (Cl.o0 rfl)) rfl (by kernel_rfl) ?_
          refine xm_take 9 (m' := 1023) rfl (by kernel_rfl) Sb.a (rd_geq rfl rfl) rfl (by kernel_rfl) ?_
          refine xm_take 10 (m' := 2047) rfl (by kernel_rfl) Sb.a (rd_assign rfl) rfl (by kernel_rfl) ?_
          refine xm_done (by kernel_rfl) ?_
          refine xq_seq ?_
          refine xc_dec rfl (fun hz1 => ?_) (fun hz1 => ?_)
          refine xc_seq ?_
          refine xc_region ?_
          refine xo_rd (rd_assign rfl) rfl ?_
          refine xo_nil ?_
          refine xq_seq ?_
          refine xc_ret ?_
          refine xq_block_ret ?_
          refine xq_then_ret ?_
          rotate_left
          refine xc_skip ?_
          refine xq_block ?_
          refine xq_seq ?_
          refine xc_seq ?_
          refine xc_region ?_
          refine xo_rd (rd_move rfl) rfl ?_
          refine xo_rd (rd_move rfl) rfl ?_
          refine xo_rd (rd_nilCheck rfl) rfl ?_
          refine xo_rd (rd_fieldAddr rfl) rfl ?_
          refine xo_rd (rd_load1 rfl (Cl.o0 rfl)) rfl ?_
          refine xo_rd (rd_move rfl) rfl ?_
          refine xo_ef rfl (ef_slice1 rfl rfl rfl fun r56 => ?_)
          refine xo_ef rfl (ef_appendQS [_, _, _] (gl ++ L) wl (news := ints .u32 [w]) rfl rfl hw rfl rs_cons rfl rfl (by decide) (by omega) (by omega) fun wp2 wc2 wl2 hw2 hk2 => ?_)
          refine xo_rd (rd_nilCheck rfl) rfl ?_
          refine xo_rd (rd_fieldAddr rfl) rfl ?_
          refine xo_ef rfl (ef_store1 [_] _ rfl rfl (by first | rfl | assumption) rfl rfl rfl ?_)
          refine xo_nil ?_
          refine xq_seq ?_
          refine xc_seq ?_
          refine xc_region ?_
          refine xo_rd (rd_assign rfl) rfl ?_
          refine xo_nil ?_
          refine xq_seq ?_
          refine xc_ret ?_
          rotate_left
        · have hE : reqE ⟨bound, sil, ms, true, no, who, at', heard, pend, wt, gs⟩ w = 131 := by unfold reqE; dsimp only; rw [hb, if_pos rfl, if_neg hno, if_pos ⟨rfl, by omega⟩]
          exact xq_ret1 (.inl rfl) Tryz.results59 rfl ⟨by rw [hE], _, hx', by rw [reqF, hE]; rfl, rfl⟩
        · have hE : reqE ⟨bound, sil, ms, true, no, who, at', heard, pend, wt, gs⟩ w = 0 := by unfold reqE; dsimp only; rw [hb, if_pos rfl, if_neg hno, if_neg (by omega)]
          have hy : (Fm.mk ⟨bound, sil, ms, true, no, who, at', heard, pend, wt ++ [w], gs⟩ mb mo wp2 wc2 wl2 gp gc gl).Ok := ⟨hmp, by dsimp only; rw [List.length_append, ints_app]; exact hw2, hgs, hnd, hbd, by dsimp only; rw [List.length_append, List.length_singleton]; omega, hmn⟩
          exact xq_sub (List.sublist_cons_self _ _) (xq_ret1 (.inl rfl) Tryz.results59 rfl ⟨by rw [hE], _, hy, by rw [reqF, hE]; rfl, by simp only [List.length_append, List.length_singleton]; rfl⟩)
end Go.Proofs.YtmdeajdaeihniaaGreat.X
/-
  Chapter 13: Heard, Tick, Holder, Pending, Waiting, New; a floor that is not there: walks of my own.
-/
namespace Go.Proofs.YtmdeajdaeihniaaGreat.X
open Go Go.RowKit
set_option linter.unusedVariables false
set_option linter.unusedSimpArgs false
set_option maxHeartbeats 800000 in
theorem xf_Heard {W : World} {L : List Blk} (r : Nat) (x : Fm) (hx : x.Ok) (w now : Int) (k : Bool) : XF Tryz.prog W 82 #[.pointer (some ⟨r, 0, none⟩), .int .u32 w, .int .u64 now, .bool k] (x.blks r L) (fun v L' => v = .bool (holdsA x.a w) ∧ ∃ y : Fm, y.Ok ∧ y.a = heardF x.a w now k ∧ L' = y.blks r L) := by
  obtain ⟨q, hq⟩ : ∃ q, holdsA x.a w = q := ⟨_, rfl⟩
  have hol := fun L' (h : ∀ z, z ∈ x.blks r L → z ∈ L') => xf_hol (W := W) (L := L') r x (hx.fr0 h) w q hq
  have hF : heardF x.a w now k = if q = true then { x.a with heard := now, pend := x.a.pend && !k } else x.a := by unfold heardF; rw [hq]
  rw [hq, hF]
  refine xf_enter (args := [_, _, _, _]) Tryz.func82 rfl Tryz.ntmps82 rfl ?_
  cases q with
  | false =>
    focus
      refine xc_seq ?_
      refine xc_region ?_
      refine xo_rd (rd_assign rfl) rfl ?_
      refine xo_nil ?_
      refine xq_seq ?_
      refine xc_seq ?_
      refine xc_seq ?_
      refine xc_region ?_
      refine xo_rd (rd_move rfl) rfl ?_
      refine xo_rd (rd_eqnil rfl) rfl ?_
      refine xo_rd (rd_move rfl) rfl ?_
      refine xo_grd rfl rfl (rd_move rfl) rfl ?_
      refine xo_grd rfl rfl (rd_move rfl) rfl ?_
      refine xo_gef rfl rfl rfl (ef_call rfl (XF.mono (hol _ (by intro z hz; simp [hz])) ?_))
      rintro v L' ⟨rfl, rfl⟩
      refine xo_grd rfl rfl (rd_not rfl) rfl ?_
      refine xo_rd (rd_pickf rfl rfl) rfl ?_
      refine xo_nil ?_
      refine xq_seq ?_
      refine xc_condt rfl ?_
      refine xc_seq ?_
      refine xc_region ?_
      refine xo_rd (rd_assign rfl) rfl ?_
      refine xo_nil ?_
      refine xq_seq ?_
      refine xc_ret ?_
      refine xq_then_ret ?_
    exact xq_ret1 (.inl rfl) Tryz.results82 rfl ⟨rfl, x, hx, rfl, rfl⟩
  | true =>
    focus
      refine xc_seq ?_
      refine xc_region ?_
      refine xo_rd (rd_assign rfl) rfl ?_
      refine xo_nil ?_
      refine xq_seq ?_
      refine xc_seq ?_
      refine xc_seq ?_
      refine xc_region ?_
      refine xo_rd (rd_move rfl) rfl ?_
      refine xo_rd (rd_eqnil rfl) rfl ?_
      refine xo_rd (rd_move rfl) rfl ?_
      refine xo_grd rfl rfl (rd_move rfl) rfl ?_
      refine xo_grd rfl rfl (rd_move rfl) rfl ?_
      refine xo_gef rfl rfl rfl (ef_call rfl (XF.mono (hol _ (by intro z hz; simp [hz])) ?_))
      rintro v L' ⟨rfl, rfl⟩
      refine xo_grd rfl rfl (rd_not rfl) rfl ?_
      refine xo_rd (rd_pickf rfl rfl) rfl ?_
      refine xo_nil ?_
      refine xq_seq ?_
      refine xc_condf rfl ?_
      refine xc_skip ?_
      refine xq_seq ?_
    clear hol
    obtain ⟨⟨bound, sil, ms, held, no, who, at', heard, pend, wt, gs⟩, mb, mo, wp, wc, wl, gp, gc, gl⟩ := x
    obtain ⟨hmp, hw, hgs, hnd, hbd, hwb, hmn⟩ := hx
    dsimp only at hmp hw hgs hnd hbd hwb hmn
    unfold Fm.blks Fm.cells
    dsimp only
    have hy : ∀ p, (Fm.mk ⟨bound, sil, ms, held, no, who, at', now, p, wt, gs⟩ mb mo wp wc wl gp gc gl).Ok := fun p => ⟨hmp, hw, hgs, hnd, hbd, hwb, hmn⟩
    cases pend <;> cases k
    all_goals skip
    · skip
      focus
        refine xc_seq ?_
        refine xc_region ?_
        refine xo_rd (rd_move rfl) rfl ?_
        refine xo_rd (rd_move rfl) rfl ?_
        refine xo_rd (rd_nilCheck rfl) rfl ?_
        refine xo_rd (rd_fieldAddr rfl) rfl ?_
        refine xo_rd (rd_fieldAddr rfl) rfl ?_
        refine xo_ef rfl (ef_store1 [] _ rfl rfl (by first | rfl | assumption) rfl rfl rfl ?_)
        refine xo_nil ?_
        refine xq_seq ?_
        refine xc_seq ?_
        refine xc_region ?_
        refine xo_rd (rd_move rfl) rfl ?_
        refine xo_rd (rd_move rfl) rfl ?_
        refine xo_rd (rd_nilCheck rfl) rfl ?_
        refine xo_rd (rd_fieldAddr rfl) rfl ?_
        refine xo_rd (rd_fieldAddr rfl) rfl ?_
        refine xo_rd (rd_load1 rfl (Cl.o0 rfl)) rfl ?_
        refine xo_rd (rd_move rfl) rfl ?_
        refine xo_gskip rfl rfl rfl rfl ?_
        refine xo_gskip rfl rfl rfl rfl ?_
        refine xo_rd (rd_pickf rfl rfl) rfl ?_
        refine xo_rd (rd_nilCheck rfl) rfl ?_
        refine xo_rd (rd_fieldAddr rfl) rfl ?_
        refine xo_rd (rd_fieldAddr rfl) rfl ?_
        refine xo_ef rfl (ef_store1 [] _ rfl rfl (by first | rfl | assumption) rfl rfl rfl ?_)
        refine xo_nil ?_
        refine xq_seq ?_
        refine xc_seq ?_
        refine xc_region ?_
        refine xo_rd (rd_assign rfl) rfl ?_
        refine xo_nil ?_
        refine xq_seq ?_
        refine xc_ret ?_
      exact xq_ret1 (.inl rfl) Tryz.results82 rfl ⟨rfl, _, hy _, rfl, rfl⟩
    · focus
        refine xc_seq ?_
        refine xc_region ?_
        refine xo_rd (rd_move rfl) rfl ?_
        refine xo_rd (rd_move rfl) rfl ?_
        refine xo_rd (rd_nilCheck rfl) rfl ?_
        refine xo_rd (rd_fieldAddr rfl) rfl ?_
        refine xo_rd (rd_fieldAddr rfl) rfl ?_
        refine xo_ef rfl (ef_store1 [] _ rfl rfl (by first | rfl | assumption) rfl rfl rfl ?_)
        refine xo_nil ?_
        refine xq_seq ?_
        refine xc_seq ?_
        refine xc_region ?_
        refine xo_rd (rd_move rfl) rfl ?_
        refine xo_rd (rd_move rfl) rfl ?_
        refine xo_rd (rd_nilCheck rfl) rfl ?_
        refine xo_rd (rd_fieldAddr rfl) rfl ?_
        refine xo_rd (rd_fieldAddr rfl) rfl ?_
        refine xo_rd (rd_load1 rfl (Cl.o0 rfl)) rfl ?_
        refine xo_rd (rd_move rfl) rfl ?_
        refine xo_gskip rfl rfl rfl rfl ?_
        refine xo_gskip rfl rfl rfl rfl ?_
        refine xo_rd (rd_pickf rfl rfl) rfl ?_
        refine xo_rd (rd_nilCheck rfl) rfl ?_
        refine xo_rd (rd_fieldAddr rfl) rfl ?_
        refine xo_rd (rd_fieldAddr rfl) rfl ?_
        refine xo_ef rfl (ef_store1 [] _ rfl rfl (by first | rfl | assumption) rfl rfl rfl ?_)
        refine xo_nil ?_
        refine xq_seq ?_
        refine xc_seq ?_
        refine xc_region ?_
        refine xo_rd (rd_assign rfl) rfl ?_
        refine xo_nil ?_
        refine xq_seq ?_
        refine xc_ret ?_
      exact xq_ret1 (.inl rfl) Tryz.results82 rfl ⟨rfl, _, hy _, rfl, rfl⟩
    · focus
        refine xc_seq ?_
        refine xc_region ?_
        refine xo_rd (rd_move rfl) rfl ?_
        refine xo_rd (rd_move rfl) rfl ?_
        refine xo_rd (rd_nilCheck rfl) rfl ?_
        refine xo_rd (rd_fieldAddr rfl) rfl ?_
        refine xo_rd (rd_fieldAddr rfl) rfl ?_
        refine xo_ef rfl (ef_store1 [] _ rfl rfl (by first | rfl | assumption) rfl rfl rfl ?_)
        refine xo_nil ?_
        refine xq_seq ?_
        refine xc_seq ?_
        refine xc_region ?_
        refine xo_rd (rd_move rfl) rfl ?_
        refine xo_rd (rd_move rfl) rfl ?_
        refine xo_rd (rd_nilCheck rfl) rfl ?_
        refine xo_rd (rd_fieldAddr rfl) rfl ?_
        refine xo_rd (rd_fieldAddr rfl) rfl ?_
        refine xo_rd (rd_load1 rfl (Cl.o0 rfl)) rfl ?_
        refine xo_rd (rd_move rfl) rfl ?_
        refine xo_grd rfl rfl (rd_move rfl) rfl ?_
        refine xo_grd rfl rfl (rd_not rfl) rfl ?_
        refine xo_rd (rd_pickt rfl rfl) rfl ?_
        refine xo_rd (rd_nilCheck rfl) rfl ?_
        refine xo_rd (rd_fieldAddr rfl) rfl ?_
        refine xo_rd (rd_fieldAddr rfl) rfl ?_
        refine xo_ef rfl (ef_store1 [] _ rfl rfl (by first | rfl | assumption) rfl rfl rfl ?_)
        refine xo_nil ?_
        refine xq_seq ?_
        refine xc_seq ?_
        refine xc_region ?_
        refine xo_rd (rd_assign rfl) rfl ?_
        refine xo_nil ?_
        refine xq_seq ?_
        refine xc_ret ?_
      exact xq_ret1 (.inl rfl) Tryz.results82 rfl ⟨rfl, _, hy _, rfl, rfl⟩
    · focus
        refine xc_seq ?_
        refine xc_region ?_
        refine xo_rd (rd_move rfl) rfl ?_
        refine xo_rd (rd_move rfl) rfl ?_
        refine xo_rd (rd_nilCheck rfl) rfl ?_
        refine xo_rd (rd_fieldAddr rfl) rfl ?_
        refine xo_rd (rd_fieldAddr rfl) rfl ?_
        refine xo_ef rfl (ef_store1 [] _ rfl rfl (by first | rfl | assumption) rfl rfl rfl ?_)
        refine xo_nil ?_
        refine xq_seq ?_
        refine xc_seq ?_
        refine xc_region ?_
        refine xo_rd (rd_move rfl) rfl ?_
        refine xo_rd (rd_move rfl) rfl ?_
        refine xo_rd (rd_nilCheck rfl) rfl ?_
        refine xo_rd (rd_fieldAddr rfl) rfl ?_
        refine xo_rd (rd_fieldAddr rfl) rfl ?_
        refine xo_rd (rd_load1 rfl (Cl.o0 rfl)) rfl ?_
        refine xo_rd (rd_move rfl) rfl ?_
        refine xo_grd rfl rfl (rd_move rfl) rfl ?_
        refine xo_grd rfl rfl (rd_not rfl) rfl ?_
        refine xo_rd (rd_pickt rfl rfl) rfl ?_
        refine xo_rd (rd_nilCheck rfl) rfl ?_
        refine xo_rd (rd_fieldAddr rfl) rfl ?_
        refine xo_rd (rd_fieldAddr rfl) rfl ?_
        refine xo_ef rfl (ef_store1 [] _ rfl rfl (by first | rfl | assumption) rfl rfl rfl ?_)
        refine xo_nil ?_
        refine xq_seq ?_
        refine xc_seq ?_
        refine xc_region ?_
        refine xo_rd (rd_assign rfl) rfl ?_
        refine xo_nil ?_
        refine xq_seq ?_
        refine xc_ret ?_
      exact xq_ret1 (.inl rfl) Tryz.results82 rfl ⟨rfl, _, hy _, rfl, rfl⟩
set_option maxHeartbeats 800000 in
theorem xf_Tick {W : World} {L : List Blk} (r : Nat) (x : Fm) (hx : x.Ok) (now : Int) (hg : x.a.gs.length ≤ 1000000) (h0 : 0 ≤ x.a.heard) (hn : now ≤ 18446744073709551615) : XF Tryz.prog W 83 #[.pointer (some ⟨r, 0, none⟩), .int .u64 now] (x.blks r L) (fun v L' => v = .bool (tickA x.a now) ∧ ∃ y : Fm, y.Ok ∧ y.a = tickF x.a now ∧ L' = y.blks r L) := by
  have hfr := fun L' (h : ∀ z, z ∈ x.blks r L → z ∈ L') => hx.fr0 (W := W) (L' := L') h
  have hF : tickF x.a now = if tickA x.a now = true then endF x.a now else x.a := rfl
  obtain ⟨hd, hhd⟩ : ∃ hd, x.a.heard = hd := ⟨_, rfl⟩
  obtain ⟨sl, hsl⟩ : ∃ sl, x.a.sil = sl := ⟨_, rfl⟩
  have e8 : x.cells[8]? = some (.bool x.a.held) := rfl
  have e6 : x.cells[6]? = some (.int .u64 hd) := by rw [← hhd]; rfl
  have e1 : x.cells[1]? = some (.int .u64 sl) := by rw [← hsl]; rfl
  rw [hF]
  unfold tickA
  rw [hhd] at h0 ⊢
  rw [hsl]
  refine xf_enter (args := [_, _]) Tryz.func83 rfl Tryz.ntmps83 rfl ?_
  cases hhe : x.a.held with
  | false =>
    rw [hhe] at e8
    focus
      refine xc_seq ?_
      refine xc_region ?_
      refine xo_rd (rd_assign rfl) rfl ?_
      refine xo_nil ?_
      refine xq_seq ?_
      refine xc_seq ?_
      refine xc_seq ?_
      refine xc_drawML [0, 1, 2, 4, 12, 20, 36, 68, 132, 260, 516, 1024, 1024, 5120, 9216, 17408, 33792, 68608, 132096, 263168, 524288, 524288, 2621440, 4718592, 8912896, 17301504, 35127296, 524288, 134742016, 268959744, 537395200, 1141374976, 2148007936] [0, 1, 2, 4, 12, 20, 36, 68, 132, 260, 516, 1024, 1024, 5120, 9216, 17408, 33792, 68608, 132096, 263168, 524288, 524288, 2621440, 4718592, 8912896, 17301504, 35127296, 524288, 134742016, 268959744, 537395200, 1141374976, 2148007936] (by kernel_rfl) (by kernel_rfl) (by kernel_rfl) ?_
      refine xm_take 0 (m' := 1) rfl (by kernel_rfl) Sb.a (rd_move rfl) rfl (by kernel_rfl) ?_
      refine xm_take 1 (m' := 3) rfl (by kernel_rfl) Sb.a (rd_eqnil rfl) rfl (by kernel_rfl) ?_
      refine xm_take 2 (m' := 7) rfl (by kernel_rfl) Sb.a (rd_move rfl) rfl (by kernel_rfl) ?_
      refine xm_gtake 3 (m' := 15) rfl (by kernel_rfl) Sb.a rfl rfl (rd_move rfl) rfl (by kernel_rfl) ?_
      refine xm_gtake 4 (m' := 31) rfl (by kernel_rfl) Sb.a rfl rfl (rd_nilCheck rfl) rfl (by kernel_rfl) ?_
      refine xm_gtake 5 (m' := 63) rfl (by kernel_rfl) Sb.a rfl rfl (rd_fieldAddr rfl) rfl (by kernel_rfl) ?_
      refine xm_gtake 6 (m' := 127) rfl (by kernel_rfl) Sb.a rfl rfl (rd_fieldAddr rfl) rfl (by kernel_rfl) ?_
      refine xm_gtake 7 (m' := 255) rfl (by kernel_rfl) Sb.a rfl rfl (rd_load1 rfl ((hfr _ (by intro z hz; simp [hz])).cl 8 _ e8)) rfl (by kernel_rfl) ?_
      refine xm_gtake 8 (m' := 511) rfl (by kernel_rfl) Sb.a rfl rfl (rd_not rfl) rfl (by kernel_rfl) ?_
      refine xm_take 9 (m' := 1023) rfl (by kernel_rfl) Sb.a (rd_pickf rfl rfl) rfl (by kernel_rfl) ?_
      refine xm_take 10 (m' := 2047) rfl (by kernel_rfl) Sb.a (rd_move rfl) rfl (by kernel_rfl) ?_
      refine xm_gskip 11 (m' := 4095) rfl (by kernel_rfl) Sb.a rfl rfl rfl rfl (by kernel_rfl) ?_
      refine xm_gskip 12 (m' := 8191) rfl (by kernel_rfl) Sb.a rfl rfl rfl rfl (by kernel_rfl) ?_
      refine xm_gskip 13 (m' := 16383) rfl (by kernel_rfl) Sb.a rfl rfl rfl rfl (by kernel_rfl) ?_
      refine xm_gskip 14 (m' := 32767) rfl (by kernel_rfl) Sb.a rfl rfl rfl rfl (by kernel_rfl) ?_
      refine xm_gskip 15 (m' := 65535) rfl (by kernel_rfl) Sb.a rfl rfl rfl rfl (by kernel_rfl) ?_
      refine xm_gskip 16 (m' := 131071) rfl (by kernel_rfl) Sb.a rfl rfl rfl rfl (by kernel_rfl) ?_
      refine xm_gskip 17 (m' := 262143) rfl (by kernel_rfl) Sb.a rfl rfl rfl rfl (by kernel_rfl) ?_
      refine xm_take 18 (m' := 524287) rfl (by kernel_rfl) Sb.a (rd_pickt rfl rfl) rfl (by kernel_rfl) ?_
      refine xm_take 19 (m' := 1048575) rfl (by kernel_rfl) Sb.a (rd_move rfl) rfl (by kernel_rfl) ?_
      refine xm_gskip 20 (m' := 2097151) rfl (by kernel_rfl) Sb.a rfl rfl rfl rfl (by kernel_rfl) ?_
      refine xm_gskip 21 (m' := 4194303) rfl (by kernel_rfl) Sb.a rfl rfl rfl rfl (by kernel_rfl) ?_
      refine xm_gskip 22 (m' := 8388607) rfl (by kernel_rfl) Sb.a rfl rfl rfl rfl (by kernel_rfl) ?_
      refine xm_gskip 23 (m' := 16777215) rfl (by kernel_rfl) Sb.a rfl rfl rfl rfl (by kernel_rfl) ?_
      refine xm_gskip 24 (m' := 33554431) rfl (by kernel_rfl) Sb.a rfl rfl rfl rfl (by kernel_rfl) ?_
      refine xm_gskip 25 (m' := 67108863) rfl (by kernel_rfl) Sb.a rfl rfl rfl rfl (by kernel_rfl) ?_
      refine xm_gskip 26 (m' := 134217727) rfl (by kernel_rfl) Sb.a rfl rfl rfl rfl (by kernel_rfl) ?_
      refine xm_gskip 27 (m' := 268435455) rfl (by kernel_rfl) Sb.a rfl rfl rfl rfl (by kernel_rfl) ?_
      refine xm_gskip 28 (m' := 536870911) rfl (by kernel_rfl) Sb.a rfl rfl rfl rfl (by kernel_rfl) ?_
      refine xm_gskip 29 (m' := 1073741823) rfl (by kernel_rfl) Sb.a rfl rfl rfl rfl (by kernel_rfl) ?_
      refine xm_gskip 30 (m' := 2147483647) rfl (by kernel_rfl) Sb.a rfl rfl rfl rfl (by kernel_rfl) ?_
      refine xm_gskip 31 (m' := 4294967295) rfl (by kernel_rfl) Sb.a rfl rfl rfl rfl (by kernel_rfl) ?_
      refine xm_take 32 (m' := 8589934591) rfl (by kernel_rfl) Sb.a (rd_pickt rfl rfl) rfl (by kernel_rfl) ?_
      refine xm_done (by kernel_rfl) ?_
      refine xq_seq ?_
      refine xc_condt rfl ?_
      refine xc_seq ?_
      refine xc_region ?_
      refine xo_rd (rd_assign rfl) rfl ?_
      refine xo_nil ?_
      refine xq_seq ?_
      refine xc_ret ?_
      refine xq_then_ret ?_
    exact xq_ret1 (.inl rfl) Tryz.results83 rfl ⟨rfl, x, hx, rfl, rfl⟩
  | true =>
    rw [hhe] at e8
    focus
      refine xc_seq ?_
      refine xc_region ?_
      refine xo_rd (rd_assign rfl) rfl ?_
      refine xo_nil ?_
      refine xq_seq ?_
      refine xc_seq ?_
      refine xc_seq ?_
      refine xc_drawML [0, 1, 2, 4, 12, 20, 36, 68, 132, 260, 516, 1024, 1024, 5120, 9216, 17408, 33792, 68608, 132096, 263168, 524288, 524288, 2621440, 4718592, 8912896, 17301504, 35127296, 524288, 134742016, 268959744, 537395200, 1141374976, 2148007936] [0, 1, 2, 4, 12, 20, 36, 68, 132, 260, 516, 1024, 1024, 5120, 9216, 17408, 33792, 68608, 132096, 263168, 524288, 524288, 2621440, 4718592, 8912896, 17301504, 35127296, 524288, 134742016, 268959744, 537395200, 1141374976, 2148007936] (by kernel_rfl) (by kernel_rfl) (by kernel_rfl) ?_
      refine xm_take 0 (m' := 1) rfl (by kernel_rfl) Sb.a (rd_move rfl) rfl (by kernel_rfl) ?_
      refine xm_take 1 (m' := 3) rfl (by kernel_rfl) Sb.a (rd_eqnil rfl) rfl (by kernel_rfl) ?_
      refine xm_take 2 (m' := 7) rfl (by kernel_rfl) Sb.a (rd_move rfl) rfl (by kernel_rfl) ?_
      refine xm_gtake 3 (m' := 15) rfl (by kernel_rfl) Sb.a rfl rfl (rd_move rfl) rfl (by kernel_rfl) ?_
      refine xm_gtake 4 (m' := 31) rfl (by kernel_rfl) Sb.a rfl rfl (rd_nilCheck rfl) rfl (by kernel_rfl) ?_
      refine xm_gtake 5 (m' := 63) rfl (by kernel_rfl) Sb.a rfl rfl (rd_fieldAddr rfl) rfl (by kernel_rfl) ?_
      refine xm_gtake 6 (m' := 127) rfl (by kernel_rfl) Sb.a rfl rfl (rd_fieldAddr rfl) rfl (by kernel_rfl) ?_
      refine xm_gtake 7 (m' := 255) rfl (by kernel_rfl) Sb.a rfl rfl (rd_load1 rfl ((hfr _ (by intro z hz; simp [hz])).cl 8 _ e8)) rfl (by kernel_rfl) ?_
      refine xm_gtake 8 (m' := 511) rfl (by kernel_rfl) Sb.a rfl rfl (rd_not rfl) rfl (by kernel_rfl) ?_
      refine xm_take 9 (m' := 1023) rfl (by kernel_rfl) Sb.a (rd_pickf rfl rfl) rfl (by kernel_rfl) ?_
      refine xm_take 10 (m' := 2047) rfl (by kernel_rfl) Sb.a (rd_move rfl) rfl (by kernel_rfl) ?_
      refine xm_gtake 11 (m' := 4095) rfl (by kernel_rfl) Sb.a rfl rfl (rd_move rfl) rfl (by kernel_rfl) ?_
      refine xm_gtake 12 (m' := 8191) rfl (by kernel_rfl) Sb.a rfl rfl (rd_move rfl) rfl (by kernel_rfl) ?_
      refine xm_gtake 13 (m' := 16383) rfl (by kernel_rfl) Sb.a rfl rfl (rd_nilCheck rfl) rfl (by kernel_rfl) ?_
      refine xm_gtake 14 (m' := 32767) rfl (by kernel_rfl) Sb.a rfl rfl (rd_fieldAddr rfl) rfl (by kernel_rfl) ?_
      refine xm_gtake 15 (m' := 65535) rfl (by kernel_rfl) Sb.a rfl rfl (rd_fieldAddr rfl) rfl (by kernel_rfl) ?_
      refine xm_gtake 16 (m' := 131071) rfl (by kernel_rfl) Sb.a rfl rfl (rd_load1 rfl ((hfr _ (by intro z hz; simp [hz])).cl 6 _ e6)) rfl (by kernel_rfl) ?_
      refine xm_gtake 17 (m' := 262143) rfl (by kernel_rfl) Sb.a rfl rfl (rd_lss rfl rfl) rfl (by kernel_rfl) ?_
      refine xm_take 18 (m' := 524287) rfl (by kernel_rfl) Sb.a (rd_pickf rfl rfl) rfl (by kernel_rfl) ?_
      refine xm_take 19 (m' := 1048575) rfl (by kernel_rfl) Sb.a (rd_move rfl) rfl (by kernel_rfl) ?_
      refine xm_dec 24 rfl (fun hz1 => ?_) (fun hz1 => ?_)
      refine xm_gskip 20 (m' := 2097151) rfl (by kernel_rfl) Sb.a rfl rfl rfl rfl (by kernel_rfl) ?_
      refine xm_gskip 21 (m' := 4194303) rfl (by kernel_rfl) Sb.a rfl rfl rfl rfl (by kernel_rfl) ?_
      refine xm_gskip 22 (m' := 8388607) rfl (by kernel_rfl) Sb.a rfl rfl rfl rfl (by kernel_rfl) ?_
      refine xm_gskip 23 (m' := 16777215) rfl (by kernel_rfl) Sb.a rfl rfl rfl rfl (by kernel_rfl) ?_
      refine xm_gskip 24 (m' := 33554431) rfl (by kernel_rfl) Sb.a rfl rfl rfl rfl (by kernel_rfl) ?_
      refine xm_gskip 25 (m' := 67108863) rfl (by kernel_rfl) Sb.a rfl rfl rfl rfl (by kernel_rfl) ?_
      refine xm_gskip 26 (m' := 134217727) rfl (by kernel_rfl) Sb.a rfl rfl rfl rfl (by kernel_rfl) ?_
      refine xm_gskip 27 (m' := 268435455) rfl (by kernel_rfl) Sb.a rfl rfl rfl rfl (by kernel_rfl) ?_
      refine xm_gskip 28 (m' := 536870911) rfl (by kernel_rfl) Sb.a rfl rfl rfl rfl (by kernel_rfl) ?_
      refine xm_gskip 29 (m' := 1073741823) rfl (by kernel_rfl) Sb.a rfl rfl rfl rfl (by kernel_rfl) ?_
      refine xm_gskip 30 (m' := 2147483647) rfl (by kernel_rfl) Sb.a rfl rfl rfl rfl (by kernel_rfl) ?_
      refine xm_gskip 31 (m' := 4294967295) rfl (by kernel_rfl) Sb.a rfl rfl rfl rfl (by kernel_rfl) ?_
      refine xm_take 32 (m' := 8589934591) rfl (by kernel_rfl) Sb.a (rd_pickt rfl rfl) rfl (by kernel_rfl) ?_
      refine xm_done (by kernel_rfl) ?_
      refine xq_seq ?_
      refine xc_condt rfl ?_
      refine xc_seq ?_
      refine xc_region ?_
      refine xo_rd (rd_assign rfl) rfl ?_
      refine xo_nil ?_
      refine xq_seq ?_
      refine xc_ret ?_
      refine xq_then_ret ?_
      rotate_left
      refine xm_gtake 20 (m' := 2097151) rfl (by kernel_rfl) Sb.a rfl rfl (rd_move rfl) rfl (by kernel_rfl) ?_
      refine xm_gtake 21 (m' := 4194303) rfl (by kernel_rfl) Sb.a rfl rfl (rd_move rfl) rfl (by kernel_rfl) ?_
      refine xm_gtake 22 (m' := 8388607) rfl (by kernel_rfl) Sb.a rfl rfl (rd_nilCheck rfl) rfl (by kernel_rfl) ?_
      refine xm_gtake 23 (m' := 16777215) rfl (by kernel_rfl) Sb.a rfl rfl (rd_fieldAddr rfl) rfl (by kernel_rfl) ?_
      refine xm_gtake 24 (m' := 33554431) rfl (by kernel_rfl) Sb.a rfl rfl (rd_fieldAddr rfl) rfl (by kernel_rfl) ?_
      refine xm_gtake 25 (m' := 67108863) rfl (by kernel_rfl) Sb.a rfl rfl (rd_load1 rfl ((hfr _ (by intro z hz; simp [hz])).cl 6 _ e6)) rfl (by kernel_rfl) ?_
      refine xm_gtake 26 (m' := 134217727) rfl (by kernel_rfl) Sb.a rfl rfl (rd_subn rfl rfl (by omega) (by omega)) rfl (by kernel_rfl) ?_
      refine xm_gtake 27 (m' := 268435455) rfl (by kernel_rfl) Sb.a rfl rfl (rd_move rfl) rfl (by kernel_rfl) ?_
      refine xm_gtake 28 (m' := 536870911) rfl (by kernel_rfl) Sb.a rfl rfl (rd_nilCheck rfl) rfl (by kernel_rfl) ?_
      refine xm_gtake 29 (m' := 1073741823) rfl (by kernel_rfl) Sb.a rfl rfl (rd_fieldAddr rfl) rfl (by kernel_rfl) ?_
      refine xm_gtake 30 (m' := 2147483647) rfl (by kernel_rfl) Sb.a rfl rfl (rd_load1 rfl ((hfr _ (by intro z hz; simp [hz])).cl 1 _ e1)) rfl (by kernel_rfl) ?_
      refine xm_gtake 31 (m' := 4294967295) rfl (by kernel_rfl) Sb.a rfl rfl (rd_lss rfl rfl) rfl (by kernel_rfl) ?_
      refine xm_take 32 (m' := 8589934591) rfl (by kernel_rfl) Sb.a (rd_pickf rfl rfl) rfl (by kernel_rfl) ?_
      refine xm_done (by kernel_rfl) ?_
      refine xq_seq ?_
      refine xc_dec rfl (fun hz2 => ?_) (fun hz2 => ?_)
      refine xc_seq ?_
      refine xc_region ?_
      refine xo_rd (rd_assign rfl) rfl ?_
      refine xo_nil ?_
      refine xq_seq ?_
      refine xc_ret ?_
      refine xq_then_ret ?_
      rotate_left
      refine xc_skip ?_
      refine xq_seq ?_
      rotate_left
    all_goals first
      | exact xq_ret1 (.inl rfl) Tryz.results83 rfl ⟨by rw [decide_eq_false (by omega)]; rfl, x, hx, by rw [decide_eq_false (by omega)]; rfl, rfl⟩
      | exact xq_ret1 (.inl rfl) Tryz.results83 rfl ⟨by rw [decide_eq_true (show hd ≤ now by omega), decide_eq_false (by omega)]; rfl, x, hx, by rw [decide_eq_true (show hd ≤ now by omega), decide_eq_false (by omega)]; rfl, rfl⟩
      | skip
    rw [decide_eq_true (show hd ≤ now by omega), decide_eq_true (show sl ≤ now - hd by omega)]
    focus
      refine xc_seq ?_
      refine xc_region ?_
      refine xo_rd (rd_move rfl) rfl ?_
      refine xo_rd (rd_move rfl) rfl ?_
      refine xo_ef rfl (ef_call rfl (XF.mono (xf_end r x hx now hg) ?_))
      rintro v L' ⟨rfl, y, hy, hya, rfl⟩
      refine xo_nil ?_
      refine xq_seq ?_
      refine xc_seq ?_
      refine xc_region ?_
      refine xo_rd (rd_assign rfl) rfl ?_
      refine xo_nil ?_
      refine xq_seq ?_
      refine xc_ret ?_
    exact xq_ret1 (.inl rfl) Tryz.results83 rfl ⟨rfl, y, hy, hya, rfl⟩
theorem fr_g {W : World} {L : List Blk} {r : Nat} {x : Fm} (h : FR W L r x) : ∀ (j : Nat) (u : Value), (gEnc (x.a.no, x.a.who, x.a.at'))[j]? = some u → Cl W L r (3 + j) u := fun j u hj => by
  refine h.cl (3 + j) u ?_
  match j, hj with
  | 0, h => exact h
  | 1, h => exact h
  | 2, h => exact h
theorem xf_Holder {W : World} {L : List Blk} (r : Nat) (x : Fm) (hfr : FR W L r x) : XF Tryz.prog W 84 #[.pointer (some ⟨r, 0, none⟩)] L (fun v L' => v = .tuple #[.agg (gEnc (x.a.no, x.a.who, x.a.at')).toArray, .bool x.a.held] ∧ L' = L) := by
  have hc := hfr.cl
  refine xf_enter (args := [_]) Tryz.func84 rfl Tryz.ntmps84 rfl ?_
  focus
    refine xc_seq ?_
    refine xc_region ?_
    refine xo_ef rfl (ef_alloc fun r2 => ?_)
    refine xo_rd (rd_assign rfl) rfl ?_
    refine xo_nil ?_
    refine xq_seq ?_
    refine xc_seq ?_
    refine xc_seq ?_
    refine xc_region ?_
    refine xo_rd (rd_move rfl) rfl ?_
    refine xo_rd (rd_eqnil rfl) rfl ?_
    refine xo_nil ?_
    refine xq_seq ?_
    refine xc_condf rfl ?_
    refine xc_skip ?_
    refine xq_seq ?_
    refine xc_seq ?_
    refine xc_drawM [0, 1, 2, 4, 8, 0, 32, 64, 128, 256, 31, 2047] [0, 1, 2, 4, 8, 0, 32, 64, 128, 256, 31, 2047] (L) (by kernel_rfl) (by kernel_rfl) (by kernel_rfl) ?_
    refine xm_take 0 (m' := 1) rfl (by kernel_rfl) Sb.a (rd_move rfl) rfl (by kernel_rfl) ?_
    refine xm_take 1 (m' := 3) rfl (by kernel_rfl) Sb.a (rd_nilCheck rfl) rfl (by kernel_rfl) ?_
    refine xm_take 2 (m' := 7) rfl (by kernel_rfl) Sb.a (rd_fieldAddr rfl) rfl (by kernel_rfl) ?_
    refine xm_take 3 (m' := 15) rfl (by kernel_rfl) Sb.a (rd_fieldAddr rfl) rfl (by kernel_rfl) ?_
    refine xm_take 4 (m' := 31) rfl (by kernel_rfl) Sb.a (rd_loadA (vs := gEnc (x.a.no, x.a.who, x.a.at')) rfl rfl (fun j u hj => (fr_g hfr j u hj).mono (by intro z hz; simp [hz]))) rfl (by kernel_rfl) ?_
    refine xm_take 5 (m' := 63) rfl (by kernel_rfl) Sb.a (rd_move rfl) rfl (by kernel_rfl) ?_
    refine xm_take 6 (m' := 127) rfl (by kernel_rfl) Sb.a (rd_nilCheck rfl) rfl (by kernel_rfl) ?_
    refine xm_take 7 (m' := 255) rfl (by kernel_rfl) Sb.a (rd_fieldAddr rfl) rfl (by kernel_rfl) ?_
    refine xm_take 8 (m' := 511) rfl (by kernel_rfl) Sb.a (rd_fieldAddr rfl) rfl (by kernel_rfl) ?_
    refine xm_take 9 (m' := 1023) rfl (by kernel_rfl) Sb.a (rd_load1 rfl ((hc 8 _ rfl).mono (by intro z hz; simp [hz]))) rfl (by kernel_rfl) ?_
    refine xm_one 10 (m' := 2047) rfl (by kernel_rfl) rfl (by kernel_rfl) (ef_storeB [] _ rfl rfl (by first | rfl | assumption) rfl rfl rfl ?_)
    refine ⟨Sb.a, ?_⟩
    refine xm_take 11 (m' := 4095) rfl (by kernel_rfl) Sb.a (rd_assign rfl) rfl (by kernel_rfl) ?_
    refine xm_done (by kernel_rfl) ?_
    refine xq_seq ?_
    refine xc_ret ?_
  all_goals exact xq_retB2 (.inl rfl) Tryz.results84 rfl rfl Kn.o0 rfl (List.sublist_cons_self _ _) ⟨rfl, rfl⟩
theorem xf_Pending {W : World} {L : List Blk} (r : Nat) (x : Fm) (hfr : FR W L r x) : XF Tryz.prog W 85 #[.pointer (some ⟨r, 0, none⟩)] L (fun v L' => v = .bool x.a.pend ∧ L' = L) := by
  refine xf_enter (args := [_]) Tryz.func85 rfl Tryz.ntmps85 rfl ?_
  focus
    refine xc_seq ?_
    refine xc_region ?_
    refine xo_rd (rd_assign rfl) rfl ?_
    refine xo_nil ?_
    refine xq_seq ?_
    refine xc_seq ?_
    refine xc_region ?_
    refine xo_rd (rd_move rfl) rfl ?_
    refine xo_rd (rd_nenil rfl) rfl ?_
    refine xo_rd (rd_move rfl) rfl ?_
    refine xo_grd rfl rfl (rd_move rfl) rfl ?_
    refine xo_grd rfl rfl (rd_nilCheck rfl) rfl ?_
    refine xo_grd rfl rfl (rd_fieldAddr rfl) rfl ?_
    refine xo_grd rfl rfl (rd_fieldAddr rfl) rfl ?_
    refine xo_grd rfl rfl (rd_load1 rfl ((hfr.cl 7 _ rfl).mono (by intro z hz; simp [hz]))) rfl ?_
    refine xo_rd (rd_pickt rfl rfl) rfl ?_
    refine xo_rd (rd_assign rfl) rfl ?_
    refine xo_nil ?_
    refine xq_seq ?_
    refine xc_ret ?_
  exact xq_ret1 (.inl rfl) Tryz.results85 rfl ⟨rfl, rfl⟩
theorem xf_Waiting {W : World} {L : List Blk} (r : Nat) (x : Fm) (hfr : FR W L r x) (hl : x.a.wt.length ≤ 1000000) : XF Tryz.prog W 88 #[.pointer (some ⟨r, 0, none⟩)] L (fun v L' => ∃ q k l, v = .slice q x.a.wt.length k ∧ SlO 1 36 (.slice q x.a.wt.length k) x.a.wt.length (ints .u32 x.a.wt) l ∧ L' = l ++ L) := by
  refine xf_enter (args := [_]) Tryz.func88 rfl Tryz.ntmps88 rfl ?_
  focus
    refine xc_seq ?_
    refine xc_region ?_
    refine xo_rd (rd_assign rfl) rfl ?_
    refine xo_nil ?_
    refine xq_seq ?_
    refine xc_seq ?_
    refine xc_seq ?_
    refine xc_region ?_
    refine xo_rd (rd_move rfl) rfl ?_
    refine xo_rd (rd_eqnil rfl) rfl ?_
    refine xo_nil ?_
    refine xq_seq ?_
    refine xc_condf rfl ?_
    refine xc_skip ?_
    refine xq_seq ?_
    refine xc_seq ?_
    refine xc_region ?_
    refine xo_rd (rd_move rfl) rfl ?_
    refine xo_rd (rd_nilCheck rfl) rfl ?_
    refine xo_rd (rd_fieldAddr rfl) rfl ?_
    refine xo_rd (rd_load1 rfl ((hfr.cl 9 _ rfl).mono (by intro z hz; simp [hz]))) rfl ?_
    refine xo_ef rfl (ef_call rfl (XF.mono (xf_clone x.wp x.a.wt.length x.wc (ints .u32 x.a.wt) (by simp [ints]) (hfr.w.mono (by intro z hz; simp [hz])) (ints_one _ _) (by omega)) ?_))
    rintro v L' ⟨q, k, l, rfl, hO, hk, rfl⟩
    refine xo_rd (rd_assign rfl) rfl ?_
    refine xo_nil ?_
    refine xq_seq ?_
    refine xc_ret ?_
  exact xq_ret1 (.inl rfl) Tryz.results88 rfl ⟨q, k, l, rfl, hO, rfl⟩
def newFa (b s : Int) : Fa := ⟨b, s, [], false, 0, 0, 0, 0, false, [], []⟩
theorem xf_New {W : World} {L : List Blk} (b s : Int) (hb : 0 ≤ b ∧ b ≤ 32) (hs : 1 ≤ s) : XF Tryz.prog W 24 #[.int .i64 b, .int .u64 s] L (fun v L' => ∃ r, v = .tuple #[.pointer (some ⟨r, 0, none⟩), .int .i64 0] ∧ ∃ y : Fm, y.Ok ∧ y.a = newFa b s ∧ L' = y.blks r L) := by
  refine xf_enter (args := [_, _]) Tryz.func24 rfl Tryz.ntmps24 rfl ?_
  focus
    refine xc_seq ?_
    refine xc_region ?_
    refine xo_rd (rd_assign rfl) rfl ?_
    refine xo_rd (rd_assign rfl) rfl ?_
    refine xo_nil ?_
    refine xq_seq ?_
    refine xc_seq ?_
    refine xc_seq ?_
    refine xc_region ?_
    refine xo_rd (rd_move rfl) rfl ?_
    refine xo_rd (rd_lss rfl rfl) rfl ?_
    refine xo_rd (rd_move rfl) rfl ?_
    refine xo_dec 8 rfl (fun h1 => (by exfalso; omega)) (fun h1 => ?_)
    refine xo_grd rfl rfl (rd_move rfl) rfl ?_
    refine xo_grd rfl rfl (rd_gtr rfl rfl) rfl ?_
    refine xo_rd (rd_pickf rfl rfl) rfl ?_
    refine xo_rd (rd_move rfl) rfl ?_
    refine xo_dec 12 rfl (fun h2 => (by exfalso; omega)) (fun h2 => ?_)
    refine xo_grd rfl rfl (rd_move rfl) rfl ?_
    refine xo_grd rfl rfl (rd_lss rfl rfl) rfl ?_
    refine xo_rd (rd_pickf rfl rfl) rfl ?_
    refine xo_nil ?_
    refine xq_seq ?_
    refine xc_dec rfl (fun h3 => (by exfalso; omega)) (fun h3 => ?_)
    refine xc_skip ?_
    refine xq_seq ?_
    refine xc_seq ?_
    refine xc_region ?_
    refine xo_rd (rd_move rfl) rfl ?_
    refine xo_rd (rd_move rfl) rfl ?_
    refine xo_ef rfl (ef_makeMap fun r18 => ?_)
    refine xo_rd (rd_cast (v' := .agg (fcl b s r18 0 0 0 0 false false none 0 0 none 0 0).toArray) (rd_build (T := 136) rfl rfl rfl) (by kernel_rfl)) rfl ?_
    refine xo_ef rfl (ef_box rfl fun r20 => ?_)
    refine xo_rd (rd_assign rfl) rfl ?_
    refine xo_rd (rd_assign rfl) rfl ?_
    refine xo_nil ?_
    refine xq_seq ?_
    refine xc_ret ?_
  exact xq_ret2 (.inl rfl) Tryz.results24 rfl rfl ⟨r20, rfl, ⟨newFa b s, r18, .map #[] 0, none, 0, [], none, 0, []⟩, ⟨MpIs.empty, SlQ.nil, SlQ.nil, List.nodup_nil, hb, hb.1, Nat.zero_le _⟩, rfl, rfl⟩
theorem xf_NewE {W : World} {L : List Blk} (b s : Int) (hb : b < 0 ∨ 32 < b ∨ s < 1) : XF Tryz.prog W 24 #[.int .i64 b, .int .u64 s] L (fun v L' => v = .tuple #[.pointer none, .int .i64 2] ∧ L' = L) := by
  refine xf_enter (args := [_, _]) Tryz.func24 rfl Tryz.ntmps24 rfl ?_
  focus
    refine xc_seq ?_
    refine xc_region ?_
    refine xo_rd (rd_assign rfl) rfl ?_
    refine xo_rd (rd_assign rfl) rfl ?_
    refine xo_nil ?_
    refine xq_seq ?_
    refine xc_seq ?_
    refine xc_seq ?_
    refine xc_region ?_
    refine xo_rd (rd_move rfl) rfl ?_
    refine xo_rd (rd_lss rfl rfl) rfl ?_
    refine xo_rd (rd_move rfl) rfl ?_
    refine xo_dec 8 rfl (fun h1 => ?_) (fun h1 => ?_)
    refine xo_gskip rfl rfl rfl rfl ?_
    refine xo_gskip rfl rfl rfl rfl ?_
    refine xo_rd (rd_pickt rfl rfl) rfl ?_
    refine xo_rd (rd_move rfl) rfl ?_
    refine xo_gskip rfl rfl rfl rfl ?_
    refine xo_gskip rfl rfl rfl rfl ?_
    refine xo_rd (rd_pickt rfl rfl) rfl ?_
    refine xo_nil ?_
    refine xq_seq ?_
    refine xc_condt rfl ?_
    refine xc_seq ?_
    refine xc_region ?_
    refine xo_rd (rd_assign rfl) rfl ?_
    refine xo_rd (rd_assign rfl) rfl ?_
    refine xo_nil ?_
    refine xq_seq ?_
    refine xc_ret ?_
    refine xq_then_ret ?_
    rotate_left
    refine xo_grd rfl rfl (rd_move rfl) rfl ?_
    refine xo_grd rfl rfl (rd_gtr rfl rfl) rfl ?_
    refine xo_rd (rd_pickf rfl rfl) rfl ?_
    refine xo_rd (rd_move rfl) rfl ?_
    refine xo_dec 12 rfl (fun h2 => ?_) (fun h2 => ?_)
    refine xo_gskip rfl rfl rfl rfl ?_
    refine xo_gskip rfl rfl rfl rfl ?_
    refine xo_rd (rd_pickt rfl rfl) rfl ?_
    refine xo_nil ?_
    refine xq_seq ?_
    refine xc_condt rfl ?_
    refine xc_seq ?_
    refine xc_region ?_
    refine xo_rd (rd_assign rfl) rfl ?_
    refine xo_rd (rd_assign rfl) rfl ?_
    refine xo_nil ?_
    refine xq_seq ?_
    refine xc_ret ?_
    refine xq_then_ret ?_
    rotate_left
    refine xo_grd rfl rfl (rd_move rfl) rfl ?_
    refine xo_grd rfl rfl (rd_lss rfl rfl) rfl ?_
    refine xo_rd (rd_pickf rfl rfl) rfl ?_
    refine xo_nil ?_
    refine xq_seq ?_
    refine xc_dec rfl (fun h3 => ?_) (fun h3 => (by exfalso; omega))
    refine xc_seq ?_
    refine xc_region ?_
    refine xo_rd (rd_assign rfl) rfl ?_
    refine xo_rd (rd_assign rfl) rfl ?_
    refine xo_nil ?_
    refine xq_seq ?_
    refine xc_ret ?_
    refine xq_then_ret ?_
    rotate_left
  all_goals exact xq_ret2 (.inl rfl) Tryz.results24 rfl rfl ⟨rfl, rfl⟩
end Go.Proofs.YtmdeajdaeihniaaGreat.X
/-
  Chapter 13: a floor that is not there; the chapter's examples: walks of my own.
-/
namespace Go.Proofs.YtmdeajdaeihniaaGreat.X
open Go Go.RowKit
set_option linter.unusedVariables false
set_option linter.unusedSimpArgs false
def msG : List (String × Nat × Nat) := [("No", 22, 0), ("Who", 36, 1), ("At", 22, 2)]
theorem flatG (a b : Int × Int × Int) : FlatV Tryz.prog (gEnc a).toArray (gEnc b).toArray msG (gEnc a) (gEnc b) :=
  .int (by decide) rfl rfl (.int (by decide) rfl rfl (.int (by decide) rfl rfl .nil))
theorem gEnc_inj (a b : Int × Int × Int) : decide (a = b) = true ↔ gEnc a = gEnc b := by
  obtain ⟨a0, a1, a2⟩ := a
  obtain ⟨b0, b1, b2⟩ := b
  simp [gEnc]
theorem eqsG (a b : Int × Int × Int) : EqS Tryz.prog 101 (gEnc a) (gEnc b) (decide (a = b)) := .of msG (by kernel_rfl) (by kernel_rfl) (by kernel_rfl) (by kernel_rfl) (flatG a b) (gEnc_inj a b)
theorem perm_blk {a b : Blk} (A w g L : List Blk) : (A ++ (a :: b :: (w ++ (g ++ L)))).Perm (a :: b :: (w ++ (g ++ (A ++ L)))) := (by classical exact List.perm_iff_count.2 fun a => by simp only [List.append_eq, List.count_append, List.count_cons, List.count_nil, List.cons_append, List.nil_append, List.flatMap_append, List.flatMap_cons, List.flatMap_nil, List.append_nil]; omega)
theorem Fm.blks_perm (r : Nat) (x : Fm) (A L : List Blk) : (A ++ x.blks r L).Perm (x.blks r (A ++ L)) := perm_blk A x.wl x.gl L
theorem Fm.blks_sub (r : Nat) (x : Fm) (L : List Blk) : L.Sublist (x.blks r L) := ((((List.sublist_append_right x.gl L).trans (List.sublist_append_right x.wl _)).trans (List.sublist_cons_self _ _)).trans (List.sublist_cons_self _ _))
end Go.Proofs.YtmdeajdaeihniaaGreat.X
/-
  Chapter 13: the reference's floor: what it looks for, and what it leaves out: walks of my own.
-/
namespace Go.Proofs.YtmdeajdaeihniaaGreat.X
open Go Go.RowKit
set_option linter.unusedVariables false
set_option linter.unusedSimpArgs false
def mEnc (e : Int × Bool) : List Value := [.int .u32 e.1, .bool e.2]
theorem mEnc_len (e : Int × Bool) : (mEnc e).length = 2 := rfl
/-- The reference's floor, in memory. -/
structure Rf where
  a : Fa
  mp : Option Addr
  mc : Nat
  wp : Option Addr
  wc : Nat
  gp : Option Addr
  gc : Nat
def rfE (bound sil : Int) (mp : Option Addr) (mn mc : Nat) (held : Bool) (no who at' heard : Int) (pend : Bool) (wp : Option Addr) (wn wc : Nat) (gp : Option Addr) (gn gc : Nat) : List Value :=
  [.int .i64 bound, .int .u64 sil, .slice mp mn mc, .bool held, .int .u64 no, .int .u32 who, .int .u64 at', .int .u64 heard, .bool pend, .slice wp wn wc, .slice gp gn gc]
def Rf.enc (f : Rf) : List Value := rfE f.a.bound f.a.sil f.mp f.a.ms.length f.mc f.a.held f.a.no f.a.who f.a.at' f.a.heard f.a.pend f.wp f.a.wt.length f.wc f.gp f.a.gs.length f.gc
theorem Rf.len (f : Rf) : f.enc.length = 11 := rfl
/-- It can be read. -/
structure Rf.At (W : World) (L : List Blk) (f : Rf) : Prop where
  m : Rs W L f.mp (f.a.ms.flatMap mEnc)
  w : Rs W L f.wp (ints .u32 f.a.wt)
  g : Rs W L f.gp (f.a.gs.flatMap gEnc)
  mc : f.a.ms.length ≤ f.mc
  ml : f.a.ms.length ≤ 1000000
  wl : f.a.wt.length ≤ 1000000
  gl : f.a.gs.length ≤ 1000000
theorem Rf.At.mono {W : World} {L L' : List Blk} {f : Rf} (h : f.At W L) (hm : ∀ z, z ∈ L → z ∈ L') : f.At W L' := ⟨h.m.mono hm, h.w.mono hm, h.g.mono hm, h.mc, h.ml, h.wl, h.gl⟩
theorem xf_find {W : World} {L : List Blk} (f : Rf) (hf : f.At W L) (w : Int) : XF Tryz.prog W 104 #[.agg f.enc.toArray, .int .u32 w] L (fun v L' => v = .int .i64 (ixOf (f.a.ms.map (·.1)) w) ∧ L' = L) := by
  have hml := hf.ml
  refine xf_enter (args := [_, _]) Tryz.func104 rfl Tryz.ntmps104 rfl ?_
  focus
    refine xc_seq ?_
    refine xc_region ?_
    refine xo_ef rfl (ef_box rfl fun r2 => ?_)
    refine xo_rd (rd_assign rfl) rfl ?_
    refine xo_nil ?_
    refine xq_seq ?_
    refine xc_seq ?_
    refine xc_seq ?_
    refine xc_region ?_
    refine xo_rd (rd_assign rfl) rfl ?_
    refine xo_nil ?_
    refine xq_seq ?_
    refine xc_block ?_
  refine xc_loopK (ι := Nat) (fun i => i ≤ f.a.ms.length ∧ ∀ j (h : j < f.a.ms.length), j < i → (f.a.ms[j]).1 ≠ w) (fun i => f.a.ms.length - i) (fun i => [(1, .int .u32 w), (2, .pointer (some ⟨r2, 0, none⟩)), (5, .int .i64 i)]) 0 ⟨Nat.zero_le _, fun j h hj => absurd hj (Nat.not_lt_zero _)⟩ (by repeat (first | exact keep_nil | refine keep_cons rfl ?_)) ?_
  rintro i ⟨hi, hno⟩
  by_cases hin : i < f.a.ms.length
  · obtain ⟨b, o, hp, hc⟩ := hf.m.rows mEnc_len (by decide) (by omega)
    have hci := hc i hin 0 _ rfl
    have hci2 : ∀ L', (∀ z, z ∈ L → z ∈ L') → Cl W L' b (o + (i : Int).toNat * 2 + 0) (.int .u32 (f.a.ms[i]).1) := fun L' h => hci.mono h
    obtain ⟨e, he⟩ : ∃ e, f.a.ms[i] = e := ⟨_, rfl⟩
    rw [he] at hci2
    focus
      refine xc_seq ?_
      refine xc_seq ?_
      refine xc_region ?_
      refine xo_rd (rd_move rfl) rfl ?_
      refine xo_rd (rd_fieldAddr rfl) rfl ?_
      refine xo_rd (rd_cast (v' := .slice (some ⟨b, o, none⟩) f.a.ms.length f.mc) (rd_load1 rfl (Cl.own List.mem_cons_self rfl)) (by rw [← hp]; rfl)) rfl ?_
      refine xo_rd (rd_len rfl) rfl ?_
      refine xo_rd (rd_lss rfl rfl) rfl ?_
      refine xo_nil ?_
      refine xq_seq ?_
      refine xc_dec rfl (fun hz1 => ?_) (fun hz1 => (by exfalso; omega))
      refine xc_skip ?_
      refine xq_seq ?_
      refine xc_seq ?_
      refine xc_block ?_
      refine xc_seq ?_
      refine xc_region ?_
      refine xo_rd (rd_fieldAddr rfl) rfl ?_
      refine xo_rd (rd_cast (v' := .slice (some ⟨b, o, none⟩) f.a.ms.length f.mc) (rd_load1 rfl (Cl.own List.mem_cons_self rfl)) (by rw [← hp]; rfl)) rfl ?_
      refine xo_rd (rd_move rfl) rfl ?_
      refine xo_rd (rd_indexAddr rfl rfl (by omega) (by omega)) rfl ?_
      refine xo_rd (rd_fieldAddr rfl) rfl ?_
      refine xo_rd (rd_load1 rfl (hci2 _ (by intro z hz; simp [hz]))) rfl ?_
      refine xo_rd (rd_move rfl) rfl ?_
      refine xo_rd (rd_eql rfl rfl) rfl ?_
      refine xo_nil ?_
      refine xq_seq ?_
      refine xc_dec rfl (fun hz2 => ?_) (fun hz2 => ?_)
      refine xc_seq ?_
      refine xc_region ?_
      refine xo_rd (rd_move rfl) rfl ?_
      refine xo_rd (rd_assign rfl) rfl ?_
      refine xo_nil ?_
      refine xq_seq ?_
      refine xc_ret ?_
      refine xq_block_ret ?_
      refine xq_then_ret ?_
      refine xq_then_ret ?_
      refine xq_block_ret ?_
      refine xq_then_ret ?_
      rotate_left
      refine xc_skip ?_
      refine xq_block ?_
      refine xq_seq ?_
      refine xc_region ?_
      refine xo_rd (rd_move rfl) rfl ?_
      refine xo_rd (rd_addn rfl rfl (by omega) (by omega)) rfl ?_
      refine xo_rd (rd_assign rfl) rfl ?_
      refine xo_nil ?_
      rotate_left
    · exact xq_sub (List.sublist_cons_self _ _) (xq_ret1 (.inl rfl) Tryz.results104 rfl ⟨by rw [ixOf_some (k := i) (by rw [List.length_map]; exact hin) (by rw [List.getElem_map, he]; exact hz2) (fun j hj => by rw [List.getElem_map]; exact hno j (by omega) hj)], rfl⟩)
    · refine xq_roundK rfl (i + 1) ⟨by omega, fun j h hj => ?_⟩ (by omega) (List.Sublist.refl _) (by repeat (first | exact keep_nil | refine keep_cons rfl ?_))
      by_cases hji : j = i
      · subst hji; rw [he]; exact hz2
      · exact hno j h (by omega)
  · skip
    focus
      refine xc_seq ?_
      refine xc_seq ?_
      refine xc_region ?_
      refine xo_rd (rd_move rfl) rfl ?_
      refine xo_rd (rd_fieldAddr rfl) rfl ?_
      refine xo_rd (rd_load1 rfl (Cl.o0 rfl)) rfl ?_
      refine xo_rd (rd_len rfl) rfl ?_
      refine xo_rd (rd_lss rfl rfl) rfl ?_
      refine xo_nil ?_
      refine xq_seq ?_
      refine xc_dec rfl (fun h1 => (by exfalso; omega)) (fun h1 => ?_)
      refine xc_exit ?_
      refine xq_then_exit ?_
      refine xq_then_exit ?_
      refine xq_block_hit ?_
      refine xq_seq ?_
      refine xc_seq ?_
      refine xc_region ?_
      refine xo_rd (rd_assign rfl) rfl ?_
      refine xo_nil ?_
      refine xq_seq ?_
      refine xc_ret ?_
    refine xq_sub (List.sublist_cons_self _ _) (xq_ret1 (.inl rfl) Tryz.results104 rfl ⟨?_, rfl⟩)
    rw [ixOf_none (fun j hj => by rw [List.getElem_map]; exact hno j (by simpa using hj) (by have : j < f.a.ms.length := (by simpa using hj); omega))]
theorem xf_waits {W : World} {L : List Blk} (f : Rf) (hf : f.At W L) (w : Int) : XF Tryz.prog W 105 #[.agg f.enc.toArray, .int .u32 w] L (fun v L' => v = .int .i64 (ixOf f.a.wt w) ∧ L' = L) := by
  have hwl := hf.wl
  refine xf_enter (args := [_, _]) Tryz.func105 rfl Tryz.ntmps105 rfl ?_
  focus
    refine xc_seq ?_
    refine xc_region ?_
    refine xo_ef rfl (ef_box rfl fun r2 => ?_)
    refine xo_rd (rd_assign rfl) rfl ?_
    refine xo_nil ?_
    refine xq_seq ?_
    refine xc_seq ?_
    refine xc_seq ?_
    refine xc_region ?_
    refine xo_rd (rd_assign rfl) rfl ?_
    refine xo_nil ?_
    refine xq_seq ?_
    refine xc_block ?_
  refine xc_loopK (ι := Nat) (fun i => i ≤ f.a.wt.length ∧ ∀ j (h : j < f.a.wt.length), j < i → f.a.wt[j] ≠ w) (fun i => f.a.wt.length - i) (fun i => [(1, .int .u32 w), (2, .pointer (some ⟨r2, 0, none⟩)), (5, .int .i64 i)]) 0 ⟨Nat.zero_le _, fun j h hj => absurd hj (Nat.not_lt_zero _)⟩ (by repeat (first | exact keep_nil | refine keep_cons rfl ?_)) ?_
  rintro i ⟨hi, hno⟩
  by_cases hin : i < f.a.wt.length
  · obtain ⟨b, o, hp, hci⟩ := hf.w.int (i := i) hin
    have hci2 : ∀ L', (∀ z, z ∈ L → z ∈ L') → Cl W L' b (o + (i : Int).toNat * 1) (.int .u32 f.a.wt[i]) := fun L' h => hci.mono h
    obtain ⟨e, he⟩ : ∃ e, f.a.wt[i] = e := ⟨_, rfl⟩
    rw [he] at hci2
    focus
      refine xc_seq ?_
      refine xc_seq ?_
      refine xc_region ?_
      refine xo_rd (rd_move rfl) rfl ?_
      refine xo_rd (rd_fieldAddr rfl) rfl ?_
      refine xo_rd (rd_cast (v' := .slice (some ⟨b, o, none⟩) f.a.wt.length f.wc) (rd_load1 rfl (Cl.own List.mem_cons_self rfl)) (by rw [← hp]; rfl)) rfl ?_
      refine xo_rd (rd_len rfl) rfl ?_
      refine xo_rd (rd_lss rfl rfl) rfl ?_
      refine xo_nil ?_
      refine xq_seq ?_
      refine xc_dec rfl (fun hz1 => ?_) (fun hz1 => (by exfalso; omega))
      refine xc_skip ?_
      refine xq_seq ?_
      refine xc_seq ?_
      refine xc_block ?_
      refine xc_seq ?_
      refine xc_region ?_
      refine xo_rd (rd_fieldAddr rfl) rfl ?_
      refine xo_rd (rd_cast (v' := .slice (some ⟨b, o, none⟩) f.a.wt.length f.wc) (rd_load1 rfl (Cl.own List.mem_cons_self rfl)) (by rw [← hp]; rfl)) rfl ?_
      refine xo_rd (rd_move rfl) rfl ?_
      refine xo_rd (rd_indexAddr rfl rfl (by omega) (by omega)) rfl ?_
      refine xo_rd (rd_load1 rfl (hci2 _ (by intro z hz; simp [hz]))) rfl ?_
      refine xo_rd (rd_move rfl) rfl ?_
      refine xo_rd (rd_eql rfl rfl) rfl ?_
      refine xo_nil ?_
      refine xq_seq ?_
      refine xc_dec rfl (fun hz2 => ?_) (fun hz2 => ?_)
      refine xc_seq ?_
      refine xc_region ?_
      refine xo_rd (rd_move rfl) rfl ?_
      refine xo_rd (rd_assign rfl) rfl ?_
      refine xo_nil ?_
      refine xq_seq ?_
      refine xc_ret ?_
      refine xq_block_ret ?_
      refine xq_then_ret ?_
      refine xq_then_ret ?_
      refine xq_block_ret ?_
      refine xq_then_ret ?_
      rotate_left
      refine xc_skip ?_
      refine xq_block ?_
      refine xq_seq ?_
      refine xc_region ?_
      refine xo_rd (rd_move rfl) rfl ?_
      refine xo_rd (rd_addn rfl rfl (by omega) (by omega)) rfl ?_
      refine xo_rd (rd_assign rfl) rfl ?_
      refine xo_nil ?_
      rotate_left
    · exact xq_sub (List.sublist_cons_self _ _) (xq_ret1 (.inl rfl) Tryz.results105 rfl ⟨by rw [ixOf_some (k := i) hin (he.trans hz2) (fun j hj => hno j (by omega) hj)], rfl⟩)
    · refine xq_roundK rfl (i + 1) ⟨by omega, fun j h hj => ?_⟩ (by omega) (List.Sublist.refl _) (by repeat (first | exact keep_nil | refine keep_cons rfl ?_))
      by_cases hji : j = i
      · subst hji; rw [he]; exact hz2
      · exact hno j h (by omega)
  · skip
    focus
      refine xc_seq ?_
      refine xc_seq ?_
      refine xc_region ?_
      refine xo_rd (rd_move rfl) rfl ?_
      refine xo_rd (rd_fieldAddr rfl) rfl ?_
      refine xo_rd (rd_load1 rfl (Cl.o0 rfl)) rfl ?_
      refine xo_rd (rd_len rfl) rfl ?_
      refine xo_rd (rd_lss rfl rfl) rfl ?_
      refine xo_nil ?_
      refine xq_seq ?_
      refine xc_dec rfl (fun h1 => (by exfalso; omega)) (fun h1 => ?_)
      refine xc_exit ?_
      refine xq_then_exit ?_
      refine xq_then_exit ?_
      refine xq_block_hit ?_
      refine xq_seq ?_
      refine xc_seq ?_
      refine xc_region ?_
      refine xo_rd (rd_assign rfl) rfl ?_
      refine xo_nil ?_
      refine xq_seq ?_
      refine xc_ret ?_
    refine xq_sub (List.sublist_cons_self _ _) (xq_ret1 (.inl rfl) Tryz.results105 rfl ⟨?_, rfl⟩)
    rw [ixOf_none (fun j hj => hno j hj (by omega))]
theorem xf_rholds {W : World} {L : List Blk} (f : Rf) (w : Int) (b : Bool) (hb : holdsA f.a w = b) : XF Tryz.prog W 76 #[.agg f.enc.toArray, .int .u32 w] L (fun v L' => v = .bool b ∧ L' = L) := by
  subst hb
  unfold holdsA
  refine xf_enter (args := [_, _]) Tryz.func76 rfl Tryz.ntmps76 rfl ?_
  cases hh : f.a.held with
  | false =>
    focus
      refine xc_seq ?_
      refine xc_region ?_
      refine xo_ef rfl (ef_box rfl fun r2 => ?_)
      refine xo_rd (rd_assign rfl) rfl ?_
      refine xo_nil ?_
      refine xq_seq ?_
      refine xc_seq ?_
      refine xc_region ?_
      refine xo_rd (rd_fieldAddr rfl) rfl ?_
      refine xo_rd (rd_cast (v' := .bool false) (rd_load1 rfl (Cl.own (i := 3) List.mem_cons_self rfl)) (by rw [← hh]; rfl)) rfl ?_
      refine xo_rd (rd_move rfl) rfl ?_
      refine xo_gskip rfl rfl rfl rfl ?_
      refine xo_gskip rfl rfl rfl rfl ?_
      refine xo_gskip rfl rfl rfl rfl ?_
      refine xo_gskip rfl rfl rfl rfl ?_
      refine xo_gskip rfl rfl rfl rfl ?_
      refine xo_rd (rd_pickf rfl rfl) rfl ?_
      refine xo_rd (rd_assign rfl) rfl ?_
      refine xo_nil ?_
      refine xq_seq ?_
      refine xc_ret ?_
    exact xq_sub (List.sublist_cons_self _ _) (xq_ret1 (.inl rfl) Tryz.results76 rfl ⟨rfl, rfl⟩)
  | true =>
    focus
      refine xc_seq ?_
      refine xc_region ?_
      refine xo_ef rfl (ef_box rfl fun r2 => ?_)
      refine xo_rd (rd_assign rfl) rfl ?_
      refine xo_nil ?_
      refine xq_seq ?_
      refine xc_seq ?_
      refine xc_region ?_
      refine xo_rd (rd_fieldAddr rfl) rfl ?_
      refine xo_rd (rd_load1 rfl (Cl.o0 rfl)) rfl ?_
      refine xo_rd (rd_move rfl) rfl ?_
      refine xo_split 7 rfl (fun hz1 => ?_) (fun hz1 => ?_)
      refine xo_grd rfl rfl (rd_fieldAddr rfl) rfl ?_
      refine xo_grd rfl rfl (rd_fieldAddr rfl) rfl ?_
      refine xo_grd rfl rfl (rd_load1 rfl (Cl.o0 rfl)) rfl ?_
      refine xo_grd rfl rfl (rd_move rfl) rfl ?_
      refine xo_grd rfl rfl (rd_eql rfl rfl) rfl ?_
      refine xo_rd (rd_pickt rfl rfl) rfl ?_
      refine xo_rd (rd_assign rfl) rfl ?_
      refine xo_nil ?_
      refine xq_seq ?_
      refine xc_ret ?_
      rotate_left
      refine xo_gskip rfl rfl rfl rfl ?_
      refine xo_gskip rfl rfl rfl rfl ?_
      refine xo_gskip rfl rfl rfl rfl ?_
      refine xo_gskip rfl rfl rfl rfl ?_
      refine xo_gskip rfl rfl rfl rfl ?_
      refine xo_rd (rd_pickf rfl rfl) rfl ?_
      refine xo_rd (rd_assign rfl) rfl ?_
      refine xo_nil ?_
      refine xq_seq ?_
      refine xc_ret ?_
      rotate_left
    · exact xq_sub (List.sublist_cons_self _ _) (xq_ret1 (.inl rfl) Tryz.results76 rfl ⟨rfl, rfl⟩)
    · exact absurd (hh.symm.trans hz1) (by decide)
theorem xf_without {W : World} {L : List Blk} (p : Option Addr) (n c : Nat) (l : List Int) (hn : l.length = n) (hr : Rs W L p (ints .u32 l)) (hm : n ≤ 1000000) (k : Nat) : XF Tryz.prog W 106 #[.slice p n c, .int .i64 k] L (fun v L' => ∃ q kk lb, v = .slice q (l.eraseIdx k).length kk ∧ SlQ 1 36 (.slice q (l.eraseIdx k).length kk) (l.eraseIdx k).length (ints .u32 (l.eraseIdx k)) lb ∧ L' = lb ++ L) := by
  refine xf_enter (args := [_, _]) Tryz.func106 rfl Tryz.ntmps106 rfl ?_
  focus
    refine xc_seq ?_
    refine xc_region ?_
    refine xo_rd (rd_assign rfl) rfl ?_
    refine xo_nil ?_
    refine xq_seq ?_
    refine xc_seq ?_
    refine xc_region ?_
    refine xo_rd (rd_assign rfl) rfl ?_
    refine xo_nil ?_
    refine xq_seq ?_
    refine xc_seq ?_
    refine xc_seq ?_
    refine xc_region ?_
    refine xo_rd (rd_assign rfl) rfl ?_
    refine xo_nil ?_
    refine xq_seq ?_
    refine xc_block ?_
  refine xc_loopI (ι := Nat × (Option Addr × Nat × List Blk)) (fun s => s.1 ≤ n ∧ SlQ 1 36 (.slice s.2.1 ((l.take s.1).eraseIdx k).length s.2.2.1) ((l.take s.1).eraseIdx k).length (ints .u32 ((l.take s.1).eraseIdx k)) s.2.2.2) (fun s => n - s.1) (fun s => s.2.2.2 ++ L) (fun s => [(0, .slice p n c), (1, .int .i64 k), (5, .slice s.2.1 ((l.take s.1).eraseIdx k).length s.2.2.1), (6, .int .i64 s.1)]) (0, none, 0, []) ⟨Nat.zero_le _, by dsimp only; rw [List.take_zero]; exact SlQ.nil⟩ rfl (by dsimp only; rw [List.take_zero]; exact (by repeat (first | exact keep_nil | refine keep_cons rfl ?_))) ?_
  rintro ⟨i, q, kk, lb⟩ ⟨hi, hsl⟩
  dsimp only at hi hsl ⊢
  by_cases hin : i < n
  · have hrs : Rs W (lb ++ L) p (ints .u32 l) := hr.mono fun z hz => List.mem_append_right _ hz
    obtain ⟨b, o, hpb, hc⟩ := hrs.int (i := i) (by omega)
    subst hpb
    have htk : l.take (i + 1) = l.take i ++ [l[i]] := by rw [List.take_add_one, List.getElem?_eq_getElem (by omega)]; rfl
    have hlt : (l.take i).length = i := by rw [List.length_take]; omega
    have hll : ((l.take i).eraseIdx k).length ≤ i := by rw [List.length_eraseIdx]; split <;> omega
    obtain ⟨x, hx⟩ : ∃ x, l[i] = x := ⟨_, rfl⟩
    rw [hx] at hc htk
    by_cases hik : i = k
    · have he : (l.take (i + 1)).eraseIdx k = (l.take i).eraseIdx k := by
        rw [htk, List.eraseIdx_append_of_length_le (l := l.take i) (by omega), hlt, List.eraseIdx_of_length_le (l := l.take i) (by omega), ← hik, Nat.sub_self]; simp
      focus
        refine xc_seq ?_
        refine xc_seq ?_
        refine xc_region ?_
        refine xo_rd (rd_move rfl) rfl ?_
        refine xo_rd (rd_move rfl) rfl ?_
        refine xo_rd (rd_len rfl) rfl ?_
        refine xo_rd (rd_lss rfl rfl) rfl ?_
        refine xo_nil ?_
        refine xq_seq ?_
        refine xc_dec rfl (fun h1 => ?_) (fun h1 => (by exfalso; omega))
        refine xc_skip ?_
        refine xq_seq ?_
        refine xc_seq ?_
        refine xc_block ?_
        refine xc_seq ?_
        refine xc_region ?_
        refine xo_rd (rd_move rfl) rfl ?_
        refine xo_rd (rd_move rfl) rfl ?_
        refine xo_rd (rd_neq rfl rfl) rfl ?_
        refine xo_nil ?_
        refine xq_seq ?_
        refine xc_ndec rfl (fun h2 => (by exfalso; omega)) (fun h2 => ?_)
        refine xc_skip ?_
        refine xq_block ?_
        refine xq_seq ?_
        refine xc_region ?_
        refine xo_rd (rd_move rfl) rfl ?_
        refine xo_rd (rd_addn rfl rfl (by omega) (by omega)) rfl ?_
        refine xo_rd (rd_assign rfl) rfl ?_
        refine xo_nil ?_
      exact xq_roundI ((i + 1, q, kk, lb) : Nat × (Option Addr × Nat × List Blk)) ⟨by dsimp only; omega, by dsimp only; rw [he]; exact hsl⟩ (by dsimp only; omega) rfl (by dsimp only; rw [he]; exact (by repeat (first | exact keep_nil | refine keep_cons rfl ?_)))
    · have he : (l.take (i + 1)).eraseIdx k = (l.take i).eraseIdx k ++ [x] := by
        rw [htk]
        rcases Nat.lt_or_ge k i with h | h
        · rw [List.eraseIdx_append_of_lt_length (by omega)]
        · rw [List.eraseIdx_append_of_length_le (by omega), List.eraseIdx_of_length_le (l := l.take i) (by omega), hlt]
          congr 1
          exact List.eraseIdx_of_length_le (by simp; omega)
      focus
        refine xc_seq ?_
        refine xc_seq ?_
        refine xc_region ?_
        refine xo_rd (rd_move rfl) rfl ?_
        refine xo_rd (rd_move rfl) rfl ?_
        refine xo_rd (rd_len rfl) rfl ?_
        refine xo_rd (rd_lss rfl rfl) rfl ?_
        refine xo_nil ?_
        refine xq_seq ?_
        refine xc_dec rfl (fun h1 => ?_) (fun h1 => (by exfalso; omega))
        refine xc_skip ?_
        refine xq_seq ?_
        refine xc_seq ?_
        refine xc_block ?_
        refine xc_seq ?_
        refine xc_region ?_
        refine xo_rd (rd_move rfl) rfl ?_
        refine xo_rd (rd_move rfl) rfl ?_
        refine xo_rd (rd_neq rfl rfl) rfl ?_
        refine xo_nil ?_
        refine xq_seq ?_
        refine xc_ndec rfl (fun h2 => ?_) (fun h2 => (by exfalso; omega))
        refine xc_region ?_
        refine xo_rd (rd_move rfl) rfl ?_
        refine xo_rd (rd_move rfl) rfl ?_
        refine xo_rd (rd_move rfl) rfl ?_
        refine xo_rd (rd_indexAddr rfl rfl (by omega) (by omega)) rfl ?_
        refine xo_rd (rd_load1 rfl hc) rfl ?_
        refine xo_ef rfl (ef_buildL (T := 39) (len := 1) (s := 1) (cells := (ints .u32 [x]).toArray) rfl (by decide) (by decide) (by kernel_rfl) fun r21 => ?_)
        refine xo_ef rfl (ef_appendQS [_] L lb (news := ints .u32 [x]) rfl rfl hsl rfl rs_cons rfl rfl (by decide) (by omega) (by omega) fun q2 kk2 lb2 hO2 hk2 => ?_)
        refine xo_rd (rd_assign rfl) rfl ?_
        refine xo_nil ?_
        refine xq_block ?_
        refine xq_seq ?_
        refine xc_region ?_
        refine xo_rd (rd_move rfl) rfl ?_
        refine xo_rd (rd_addn rfl rfl (by omega) (by omega)) rfl ?_
        refine xo_rd (rd_assign rfl) rfl ?_
        refine xo_nil ?_
      exact xq_sub (List.sublist_cons_self _ _) (xq_roundI ((i + 1, q2, kk2, lb2) : Nat × (Option Addr × Nat × List Blk)) ⟨by dsimp only; omega, by dsimp only; rw [he, List.length_append, ints_app]; exact hO2⟩ (by dsimp only; omega) rfl (by dsimp only; rw [he, List.length_append]; exact (by repeat (first | exact keep_nil | refine keep_cons rfl ?_))))
  · rw [List.take_of_length_le (by omega)] at hsl
    focus
      refine xc_seq ?_
      refine xc_seq ?_
      refine xc_region ?_
      refine xo_rd (rd_move rfl) rfl ?_
      refine xo_rd (rd_move rfl) rfl ?_
      refine xo_rd (rd_len rfl) rfl ?_
      refine xo_rd (rd_lss rfl rfl) rfl ?_
      refine xo_nil ?_
      refine xq_seq ?_
      refine xc_dec rfl (fun h1 => (by exfalso; omega)) (fun h1 => ?_)
      refine xc_exit ?_
      refine xq_then_exit ?_
      refine xq_then_exit ?_
      refine xq_block_hit ?_
      refine xq_seq ?_
      refine xc_seq ?_
      refine xc_region ?_
      refine xo_rd (rd_move rfl) rfl ?_
      refine xo_rd (rd_assign rfl) rfl ?_
      refine xo_nil ?_
      refine xq_seq ?_
      refine xc_ret ?_
    exact xq_ret1 (.inl rfl) Tryz.results106 rfl ⟨q, kk, lb, by rw [List.take_of_length_le (by omega)], hsl, rfl⟩
end Go.Proofs.YtmdeajdaeihniaaGreat.X
