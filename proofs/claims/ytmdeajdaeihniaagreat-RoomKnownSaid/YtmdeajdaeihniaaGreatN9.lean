/-
  Texts of my own, put together: walks and laws for this seat. No condition.
-/
import Derived.Test.YtmdeajdaeihniaaGreatN8
/-
  Chapter 25: audience and viewers; a room that is new; who joins: walks of my own.
-/
namespace Go.Proofs.YtmdeajdaeihniaaGreat.X
open Go Go.RowKit
set_option linter.unusedVariables false
set_option linter.unusedSimpArgs false
def audP (ws : List Wa) (he : Bool) (who id : Int) : Bool := (wgA ws id).ct && !(he && decide (who = id))
def viewP (ws : List Wa) (y id : Int) : Bool := decide (0 ≤ ixOf (wgA ws id).cs y)
theorem xf_RAudience {W : World} {L : List Blk} (r : Nat) (x : Rm) (hx : x.Ok) (hw : 0 ≤ x.fm.a.who ∧ x.fm.a.who ≤ 4294967295) : XF Tryz.prog W 18 #[.pointer (some ⟨r, 0, none⟩)] (x.blks r L) (fun v L' => ∃ p k l, v = .slice p ((x.ro.ms.map Mb.id).filter (audP x.was x.fm.a.held x.fm.a.who)).length k ∧ SlQ 1 3 (.slice p ((x.ro.ms.map Mb.id).filter (audP x.was x.fm.a.held x.fm.a.who)).length k) ((x.ro.ms.map Mb.id).filter (audP x.was x.fm.a.held x.fm.a.who)).length (ints .i64 ((x.ro.ms.map Mb.id).filter (audP x.was x.fm.a.held x.fm.a.who))) l ∧ L' = l ++ x.blks r L) := by
  obtain ⟨he, hhe⟩ : ∃ he, x.fm.a.held = he := ⟨_, rfl⟩
  obtain ⟨who, hwho⟩ : ∃ who, x.fm.a.who = who := ⟨_, rfl⟩
  obtain ⟨no, hno⟩ : ∃ no, x.fm.a.no = no := ⟨_, rfl⟩
  obtain ⟨at', hat⟩ : ∃ at', x.fm.a.at' = at' := ⟨_, rfl⟩
  have hh := xf_RHolder (W := W) (L := L) r x hx
  rw [hhe, hwho, hno, hat] at hh
  rw [hhe, hwho]
  rw [hwho] at hw
  refine xf_enter (args := [_]) Tryz.func18 rfl Tryz.ntmps18 rfl ?_
  focus
    refine xc_seq ?_
    refine xc_region ?_
    refine xo_rd (rd_assign rfl) rfl ?_
    refine xo_nil ?_
    refine xq_seq ?_
    refine xc_seq ?_
    refine xc_region ?_
    refine xo_rd (rd_move rfl) rfl ?_
    refine xo_ef rfl (ef_call rfl (XF.mono (hh) ?_))
    rintro v L' ⟨rfl, rfl⟩
    refine xo_rd (rd_move rfl) rfl ?_
    refine xo_rd (rd_extract rfl rfl) rfl ?_
    refine xo_rd (rd_extract rfl rfl) rfl ?_
    refine xo_ef rfl (ef_alloc fun r3 => ?_)
    refine xo_ef rfl (ef_alloc fun r4 => ?_)
    refine xo_ef rfl (ef_storeB [_] _ rfl rfl (by first | rfl | assumption) rfl rfl rfl ?_)
    refine xo_ef rfl (ef_store1 [] _ rfl rfl (by first | rfl | assumption) rfl rfl rfl ?_)
    refine xo_nil ?_
    refine xq_seq ?_
  have hth := (xf_those (W := W) (L := [(r4, Obj.cells #[.bool he] 4 (0, 0)), (r3, Obj.cells (gEnc (no, who, at')).toArray 101 (0, 0))] ++ L) 61 [.pointer (some ⟨r4, 0, none⟩), .pointer (some ⟨r3, 0, none⟩)] r x hx (audP x.was he who) (fun L' id h => by
    obtain ⟨p, c, hv, hrs, hl⟩ := watV_get (W := W) (L := L') x.ws hx.wo (fun z hz => h z (Rm.wsub z hz)) id
    rw [hv]
    exact xf_aud1 id _ p _ c r4 r3 he who hw (Cl.own (h _ ((Rm.sub r x _).subset List.mem_cons_self)) rfl) (Cl.own (h _ ((Rm.sub r x _).subset (List.mem_cons_of_mem _ List.mem_cons_self))) rfl))).perm (x.front r [_, _] L)
  refine xc_sub (L' := [(r4, Obj.cells #[.bool he] 4 (0, 0)), (r3, Obj.cells (gEnc (no, who, at')).toArray 101 (0, 0))] ++ x.blks r L) (List.Sublist.refl _) ?_
  focus
    refine xc_seq ?_
    refine xc_region ?_
    refine xo_rd (rd_move rfl) rfl ?_
    refine xo_rd (rd_makeFunc rfl rfl) rfl ?_
    refine xo_ef rfl (ef_call rfl (XF.mono (hth) ?_))
    rintro v L' ⟨p, k, l, rfl, hO, rfl⟩
    refine xo_rd (rd_assign rfl) rfl ?_
    refine xo_nil ?_
    refine xq_seq ?_
    refine xc_ret ?_
  exact xq_sub ((Rm.blks_sub r x [_, _] L).append_left l) (xq_ret1 (.inl rfl) Tryz.results18 rfl ⟨p, k, l, rfl, hO, rfl⟩)
theorem xf_RViewers {W : World} {L : List Blk} (r : Nat) (x : Rm) (hx : x.Ok) (y : Int) : XF Tryz.prog W 19 #[.pointer (some ⟨r, 0, none⟩), .int .i64 y] (x.blks r L) (fun v L' => ∃ p k l, v = .slice p ((x.ro.ms.map Mb.id).filter (viewP x.was y)).length k ∧ SlQ 1 3 (.slice p ((x.ro.ms.map Mb.id).filter (viewP x.was y)).length k) ((x.ro.ms.map Mb.id).filter (viewP x.was y)).length (ints .i64 ((x.ro.ms.map Mb.id).filter (viewP x.was y))) l ∧ L' = l ++ x.blks r L) := by
  refine xf_enter (args := [_, _]) Tryz.func19 rfl Tryz.ntmps19 rfl ?_
  focus
    refine xc_seq ?_
    refine xc_region ?_
    refine xo_ef rfl (ef_box rfl fun r3 => ?_)
    refine xo_rd (rd_assign rfl) rfl ?_
    refine xo_nil ?_
    refine xq_seq ?_
  have hth := (xf_those (W := W) (L := [(r3, Obj.cells (Value.int .i64 y).cells 3 (0, 0))] ++ L) 62 [.pointer (some ⟨r3, 0, none⟩)] r x hx (viewP x.was y) (fun L' id h => by
    obtain ⟨p, c, hv, hrs, hl⟩ := watV_get (W := W) (L := L') x.ws hx.wo (fun z hz => h z (Rm.wsub z hz)) id
    rw [hv]
    exact xf_view1 id _ p _ c _ rfl hrs hl r3 y (Cl.own (h _ ((Rm.sub r x _).subset List.mem_cons_self)) rfl))).perm (x.front r [_] L)
  focus
    refine xc_seq ?_
    refine xc_region ?_
    refine xo_rd (rd_move rfl) rfl ?_
    refine xo_rd (rd_makeFunc rfl rfl) rfl ?_
    refine xo_ef rfl (ef_call rfl (XF.mono (hth) ?_))
    rintro v L' ⟨p, k, l, rfl, hO, rfl⟩
    refine xo_rd (rd_assign rfl) rfl ?_
    refine xo_nil ?_
    refine xq_seq ?_
    refine xc_ret ?_
  exact xq_sub ((Rm.blks_sub r x [_] L).append_left l) (xq_ret1 (.inl rfl) Tryz.results19 rfl ⟨p, k, l, rfl, hO, rfl⟩)
theorem xf_thoseN {W : World} {L : List Blk} (fv : Value) (h1 : fv.oneCell' = true) : XF Tryz.prog W 60 #[.pointer none, fv] L (fun v L' => v = .slice none 0 0 ∧ L' = L) := by
  refine xf_enter (args := [_, _]) Tryz.func60 rfl Tryz.ntmps60 rfl ?_
  focus
    refine xc_seq ?_
    refine xc_region ?_
    refine xo_ef rfl (ef_box rfl fun r2 => ?_)
    refine xo_ef rfl (ef_box rfl fun r3 => ?_)
    refine xo_rd (rd_assign rfl) rfl ?_
    refine xo_nil ?_
    refine xq_seq ?_
    refine xc_seq ?_
    refine xc_region ?_
    refine xo_rd (rd_load1 rfl (Cl.o1 rfl)) rfl ?_
    refine xo_ef rfl (ef_call rfl (XF.mono (xf_RIdsN) ?_))
    rintro v L' ⟨rfl, rfl⟩
    refine xo_rd (rd_makeFunc rfl rfl) rfl ?_
  refine xo_ef rfl (ef_call rfl ((xf_deli58 (W := W) (R := (r3, Obj.cells fv.cells 123 (0, 0)) :: (r2, Obj.cells (Value.pointer none).cells 28 (0, 0)) :: L) none 0 0 [] [] SlQ.nil rfl (fun _ => false) (by decide) r3 r2 (fun l' x h => by cases h)).mono ?_))
  rintro v L' ⟨l', rfl, hO', rfl⟩
  focus
    refine xo_rd (rd_assign rfl) rfl ?_
    refine xo_nil ?_
    refine xq_seq ?_
    refine xc_ret ?_
  exact xq_sub ((List.sublist_append_right [_, _] _).trans (List.sublist_append_right l' _)) (xq_ret1 (.inl rfl) Tryz.results60 rfl ⟨rfl, rfl⟩)
theorem xf_RAudienceN {W : World} {L : List Blk} : XF Tryz.prog W 18 #[.pointer none] L (fun v L' => v = .slice none 0 0 ∧ L' = L) := by
  refine xf_enter (args := [_]) Tryz.func18 rfl Tryz.ntmps18 rfl ?_
  focus
    refine xc_seq ?_
    refine xc_region ?_
    refine xo_rd (rd_assign rfl) rfl ?_
    refine xo_nil ?_
    refine xq_seq ?_
    refine xc_seq ?_
    refine xc_region ?_
    refine xo_rd (rd_move rfl) rfl ?_
    refine xo_ef rfl (ef_call rfl (XF.mono (xf_RHolderN) ?_))
    rintro v L' ⟨rfl, rfl⟩
    refine xo_rd (rd_move rfl) rfl ?_
    refine xo_rd (rd_extract rfl rfl) rfl ?_
    refine xo_rd (rd_extract rfl rfl) rfl ?_
    refine xo_ef rfl (ef_alloc fun r3 => ?_)
    refine xo_ef rfl (ef_alloc fun r4 => ?_)
    refine xo_ef rfl (ef_storeB [_] _ rfl rfl (by first | rfl | assumption) rfl rfl rfl ?_)
    refine xo_ef rfl (ef_store1 [] _ rfl rfl (by first | rfl | assumption) rfl rfl rfl ?_)
    refine xo_nil ?_
    refine xq_seq ?_
    refine xc_seq ?_
    refine xc_region ?_
    refine xo_rd (rd_move rfl) rfl ?_
    refine xo_rd (rd_makeFunc rfl rfl) rfl ?_
    refine xo_ef rfl (ef_call rfl (XF.mono (xf_thoseN _ rfl) ?_))
    rintro v L' ⟨rfl, rfl⟩
    refine xo_rd (rd_assign rfl) rfl ?_
    refine xo_nil ?_
    refine xq_seq ?_
    refine xc_ret ?_
  exact xq_sub (List.sublist_append_right [_, _] _) (xq_ret1 (.inl rfl) Tryz.results18 rfl ⟨rfl, rfl⟩)
theorem xf_RViewersN {W : World} {L : List Blk} (y : Int) : XF Tryz.prog W 19 #[.pointer none, .int .i64 y] L (fun v L' => v = .slice none 0 0 ∧ L' = L) := by
  refine xf_enter (args := [_, _]) Tryz.func19 rfl Tryz.ntmps19 rfl ?_
  focus
    refine xc_seq ?_
    refine xc_region ?_
    refine xo_ef rfl (ef_box rfl fun r3 => ?_)
    refine xo_rd (rd_assign rfl) rfl ?_
    refine xo_nil ?_
    refine xq_seq ?_
    refine xc_seq ?_
    refine xc_region ?_
    refine xo_rd (rd_move rfl) rfl ?_
    refine xo_rd (rd_makeFunc rfl rfl) rfl ?_
    refine xo_ef rfl (ef_call rfl (XF.mono (xf_thoseN _ rfl) ?_))
    rintro v L' ⟨rfl, rfl⟩
    refine xo_rd (rd_assign rfl) rfl ?_
    refine xo_nil ?_
    refine xq_seq ?_
    refine xc_ret ?_
  exact xq_sub (List.sublist_append_right [_] _) (xq_ret1 (.inl rfl) Tryz.results19 rfl ⟨rfl, rfl⟩)
/-- A room, by itself. -/
structure Ra where
  most : Int
  ms : List Mb
  fl : Fa
  ws : List Wa
def Rm.ra (x : Rm) : Ra := ⟨x.ro.most, x.ro.ms, x.fm.a, x.was⟩
def cfgE (m q s : Int) : List Value := [.int .i64 m, .int .i64 q, .int .u64 s]
theorem xf_RNew {W : World} {L : List Blk} (m q s : Int) (hm : 0 ≤ m ∧ m ≤ 32) (hq : 0 ≤ q ∧ q ≤ 32) (hs : 1 ≤ s) : XF Tryz.prog W 7 #[.agg (cfgE m q s).toArray] L (fun v L' => ∃ r, v = .tuple #[.pointer (some ⟨r, 0, none⟩), .int .i64 0] ∧ ∃ y : Rm, y.Ok ∧ y.ra = ⟨m, [], newFa q s, []⟩ ∧ L' = y.blks r L) := by
  refine xf_enter (args := [_]) Tryz.func7 rfl Tryz.ntmps7 rfl ?_
  focus
    refine xc_seq ?_
    refine xc_region ?_
    refine xo_ef rfl (ef_box rfl fun r1 => ?_)
    refine xo_rd (rd_assign rfl) rfl ?_
    refine xo_rd (rd_assign rfl) rfl ?_
    refine xo_nil ?_
    refine xq_seq ?_
    refine xc_seq ?_
    refine xc_region ?_
    refine xo_rd (rd_fieldAddr rfl) rfl ?_
    refine xo_rd (rd_load1 rfl (Cl.o0 rfl)) rfl ?_
    refine xo_ef rfl (ef_call rfl (XF.mono (xf_new m hm) ?_))
    rintro v L' ⟨ro, hro, rfl, hmo, hms, rfl⟩
    refine xo_rd (rd_move rfl) rfl ?_
    refine xo_rd (rd_extract rfl rfl) rfl ?_
    refine xo_rd (rd_extract rfl rfl) rfl ?_
    refine xo_rd (rd_assign rfl) rfl ?_
    refine xo_rd (rd_assign rfl) rfl ?_
    refine xo_nil ?_
    refine xq_seq ?_
    refine xc_seq ?_
    refine xc_region ?_
    refine xo_rd (rd_fieldAddr rfl) rfl ?_
    refine xo_rd (rd_load1 rfl (Cl.own (List.mem_append_right _ List.mem_cons_self) rfl)) rfl ?_
    refine xo_rd (rd_fieldAddr rfl) rfl ?_
    refine xo_rd (rd_load1 rfl (Cl.own (List.mem_append_right _ List.mem_cons_self) rfl)) rfl ?_
    refine xo_ef rfl (ef_call rfl (XF.mono (xf_New q s hq hs) ?_))
    rintro v L' ⟨fr, rfl, fm, hfm, hfa, rfl⟩
    refine xo_rd (rd_move rfl) rfl ?_
    refine xo_rd (rd_extract rfl rfl) rfl ?_
    refine xo_rd (rd_extract rfl rfl) rfl ?_
    refine xo_rd (rd_assign rfl) rfl ?_
    refine xo_rd (rd_assign rfl) rfl ?_
    refine xo_nil ?_
    refine xq_seq ?_
    refine xc_seq ?_
    refine xc_seq ?_
    refine xc_region ?_
    refine xo_rd (rd_move rfl) rfl ?_
    refine xo_rd (rd_neq rfl rfl) rfl ?_
    refine xo_rd (rd_move rfl) rfl ?_
    refine xo_grd rfl rfl (rd_move rfl) rfl ?_
    refine xo_grd rfl rfl (rd_neq rfl rfl) rfl ?_
    refine xo_rd (rd_pickf rfl rfl) rfl ?_
    refine xo_nil ?_
    refine xq_seq ?_
    refine xc_condf rfl ?_
    refine xc_skip ?_
    refine xq_seq ?_
    refine xc_seq ?_
    refine xc_region ?_
    refine xo_rd (rd_move rfl) rfl ?_
    refine xo_rd (rd_build rfl rfl rfl) rfl ?_
    refine xo_rd (rd_move rfl) rfl ?_
    refine xo_ef rfl (ef_makeMap fun r31 => ?_)
    refine xo_rd (rd_cast (v' := .agg (rcl ro.c fr r31).toArray) (rd_build (T := 81) rfl rfl rfl) (by kernel_rfl)) rfl ?_
    refine xo_ef rfl (ef_box rfl fun r33 => ?_)
    refine xo_rd (rd_assign rfl) rfl ?_
    refine xo_rd (rd_assign rfl) rfl ?_
    refine xo_nil ?_
    refine xq_seq ?_
    refine xc_ret ?_
  have hy : (Rm.mk ro fr fm r31 (.map #[] 0) []).Ok := ⟨hro, hfm, MpIs.empty, (fun w h => by cases h), by dsimp only; rw [hms]; rfl, (fun w h => by dsimp only at h; rw [hms] at h; cases h)⟩
  have hya : (Rm.mk ro fr fm r31 (.map #[] 0) []).ra = ⟨m, [], newFa q s, []⟩ := by unfold Rm.ra; dsimp only; rw [hmo, hms, hfa]; rfl
  refine xq_perm (((Fm.blks_perm fr fm ro.blks _).symm.cons _).cons _) ?_
  exact xq_sub ((((Fm.blks_subA fr fm [_] L).append_left ro.blks).cons_cons _).cons_cons _) (xq_ret2 (.inl rfl) Tryz.results7 rfl rfl ⟨r33, rfl, Rm.mk ro fr fm r31 (.map #[] 0) [], hy, hya, rfl⟩)
theorem xf_RNewE {W : World} {L : List Blk} (m q s : Int) (h : ¬ ((0 ≤ m ∧ m ≤ 32) ∧ (0 ≤ q ∧ q ≤ 32) ∧ 1 ≤ s)) : XF Tryz.prog W 7 #[.agg (cfgE m q s).toArray] L (fun v L' => v = .tuple #[.pointer none, .int .i64 2] ∧ L' = L) := by
  refine xf_enter (args := [_]) Tryz.func7 rfl Tryz.ntmps7 rfl ?_
  by_cases hm : 0 ≤ m ∧ m ≤ 32
  · have h2 : q < 0 ∨ 32 < q ∨ s < 1 := by omega
    focus
      refine xc_seq ?_
      refine xc_region ?_
      refine xo_ef rfl (ef_box rfl fun r1 => ?_)
      refine xo_rd (rd_assign rfl) rfl ?_
      refine xo_rd (rd_assign rfl) rfl ?_
      refine xo_nil ?_
      refine xq_seq ?_
      refine xc_seq ?_
      refine xc_region ?_
      refine xo_rd (rd_fieldAddr rfl) rfl ?_
      refine xo_rd (rd_load1 rfl (Cl.o0 rfl)) rfl ?_
      refine xo_ef rfl (ef_call rfl (XF.mono (xf_new m hm) ?_))
      rintro v L' ⟨ro, hro, rfl, hmo, hms, rfl⟩
      refine xo_rd (rd_move rfl) rfl ?_
      refine xo_rd (rd_extract rfl rfl) rfl ?_
      refine xo_rd (rd_extract rfl rfl) rfl ?_
      refine xo_rd (rd_assign rfl) rfl ?_
      refine xo_rd (rd_assign rfl) rfl ?_
      refine xo_nil ?_
      refine xq_seq ?_
      refine xc_seq ?_
      refine xc_region ?_
      refine xo_rd (rd_fieldAddr rfl) rfl ?_
      refine xo_rd (rd_load1 rfl (Cl.own (List.mem_append_right _ List.mem_cons_self) rfl)) rfl ?_
      refine xo_rd (rd_fieldAddr rfl) rfl ?_
      refine xo_rd (rd_load1 rfl (Cl.own (List.mem_append_right _ List.mem_cons_self) rfl)) rfl ?_
      refine xo_ef rfl (ef_call rfl (XF.mono (xf_NewE q s h2) ?_))
      rintro v L' ⟨rfl, rfl⟩
      refine xo_rd (rd_move rfl) rfl ?_
      refine xo_rd (rd_extract rfl rfl) rfl ?_
      refine xo_rd (rd_extract rfl rfl) rfl ?_
      refine xo_rd (rd_assign rfl) rfl ?_
      refine xo_rd (rd_assign rfl) rfl ?_
      refine xo_nil ?_
      refine xq_seq ?_
      refine xc_seq ?_
      refine xc_seq ?_
      refine xc_region ?_
      refine xo_rd (rd_move rfl) rfl ?_
      refine xo_rd (rd_neq rfl rfl) rfl ?_
      refine xo_rd (rd_move rfl) rfl ?_
      refine xo_grd rfl rfl (rd_move rfl) rfl ?_
      refine xo_grd rfl rfl (rd_neq rfl rfl) rfl ?_
      refine xo_rd (rd_pickf rfl rfl) rfl ?_
      refine xo_nil ?_
      refine xq_seq ?_
      refine xc_condt rfl ?_
      refine xc_seq ?_
      refine xc_region ?_
      refine xo_rd (rd_assign rfl) rfl ?_
      refine xo_rd (rd_assign rfl) rfl ?_
      refine xo_nil ?_
      refine xq_seq ?_
      refine xc_ret ?_
      refine xq_then_ret ?_
    exact xq_sub ((List.sublist_cons_self _ _).trans (List.sublist_append_right _ _)) (xq_ret2 (.inl rfl) Tryz.results7 rfl rfl ⟨rfl, rfl⟩)
  · have hm2 : m < 0 ∨ 32 < m := by omega
    by_cases h2 : (0 ≤ q ∧ q ≤ 32) ∧ 1 ≤ s
    · skip
      focus
        refine xc_seq ?_
        refine xc_region ?_
        refine xo_ef rfl (ef_box rfl fun r1 => ?_)
        refine xo_rd (rd_assign rfl) rfl ?_
        refine xo_rd (rd_assign rfl) rfl ?_
        refine xo_nil ?_
        refine xq_seq ?_
        refine xc_seq ?_
        refine xc_region ?_
        refine xo_rd (rd_fieldAddr rfl) rfl ?_
        refine xo_rd (rd_load1 rfl (Cl.o0 rfl)) rfl ?_
        refine xo_ef rfl (ef_call rfl (XF.mono (xf_new_bad m hm2) ?_))
        rintro v L' ⟨rfl, rfl⟩
        refine xo_rd (rd_move rfl) rfl ?_
        refine xo_rd (rd_extract rfl rfl) rfl ?_
        refine xo_rd (rd_extract rfl rfl) rfl ?_
        refine xo_rd (rd_assign rfl) rfl ?_
        refine xo_rd (rd_assign rfl) rfl ?_
        refine xo_nil ?_
        refine xq_seq ?_
        refine xc_seq ?_
        refine xc_region ?_
        refine xo_rd (rd_fieldAddr rfl) rfl ?_
        refine xo_rd (rd_load1 rfl (Cl.o0 rfl)) rfl ?_
        refine xo_rd (rd_fieldAddr rfl) rfl ?_
        refine xo_rd (rd_load1 rfl (Cl.o0 rfl)) rfl ?_
        refine xo_ef rfl (ef_call rfl (XF.mono (xf_New q s h2.1 h2.2) ?_))
        rintro v L' ⟨fr, rfl, fm, hfm, hfa, rfl⟩
        refine xo_rd (rd_move rfl) rfl ?_
        refine xo_rd (rd_extract rfl rfl) rfl ?_
        refine xo_rd (rd_extract rfl rfl) rfl ?_
        refine xo_rd (rd_assign rfl) rfl ?_
        refine xo_rd (rd_assign rfl) rfl ?_
        refine xo_nil ?_
        refine xq_seq ?_
        refine xc_seq ?_
        refine xc_seq ?_
        refine xc_region ?_
        refine xo_rd (rd_move rfl) rfl ?_
        refine xo_rd (rd_neq rfl rfl) rfl ?_
        refine xo_rd (rd_move rfl) rfl ?_
        refine xo_gskip rfl rfl rfl rfl ?_
        refine xo_gskip rfl rfl rfl rfl ?_
        refine xo_rd (rd_pickt rfl rfl) rfl ?_
        refine xo_nil ?_
        refine xq_seq ?_
        refine xc_condt rfl ?_
        refine xc_seq ?_
        refine xc_region ?_
        refine xo_rd (rd_assign rfl) rfl ?_
        refine xo_rd (rd_assign rfl) rfl ?_
        refine xo_nil ?_
        refine xq_seq ?_
        refine xc_ret ?_
        refine xq_then_ret ?_
      exact xq_sub ((List.sublist_cons_self _ _).trans (Fm.blks_sub fr fm _)) (xq_ret2 (.inl rfl) Tryz.results7 rfl rfl ⟨rfl, rfl⟩)
    · have h3 : q < 0 ∨ 32 < q ∨ s < 1 := by omega
      focus
        refine xc_seq ?_
        refine xc_region ?_
        refine xo_ef rfl (ef_box rfl fun r1 => ?_)
        refine xo_rd (rd_assign rfl) rfl ?_
        refine xo_rd (rd_assign rfl) rfl ?_
        refine xo_nil ?_
        refine xq_seq ?_
        refine xc_seq ?_
        refine xc_region ?_
        refine xo_rd (rd_fieldAddr rfl) rfl ?_
        refine xo_rd (rd_load1 rfl (Cl.o0 rfl)) rfl ?_
        refine xo_ef rfl (ef_call rfl (XF.mono (xf_new_bad m hm2) ?_))
        rintro v L' ⟨rfl, rfl⟩
        refine xo_rd (rd_move rfl) rfl ?_
        refine xo_rd (rd_extract rfl rfl) rfl ?_
        refine xo_rd (rd_extract rfl rfl) rfl ?_
        refine xo_rd (rd_assign rfl) rfl ?_
        refine xo_rd (rd_assign rfl) rfl ?_
        refine xo_nil ?_
        refine xq_seq ?_
        refine xc_seq ?_
        refine xc_region ?_
        refine xo_rd (rd_fieldAddr rfl) rfl ?_
        refine xo_rd (rd_load1 rfl (Cl.o0 rfl)) rfl ?_
        refine xo_rd (rd_fieldAddr rfl) rfl ?_
        refine xo_rd (rd_load1 rfl (Cl.o0 rfl)) rfl ?_
        refine xo_ef rfl (ef_call rfl (XF.mono (xf_NewE q s h3) ?_))
        rintro v L' ⟨rfl, rfl⟩
        refine xo_rd (rd_move rfl) rfl ?_
        refine xo_rd (rd_extract rfl rfl) rfl ?_
        refine xo_rd (rd_extract rfl rfl) rfl ?_
        refine xo_rd (rd_assign rfl) rfl ?_
        refine xo_rd (rd_assign rfl) rfl ?_
        refine xo_nil ?_
        refine xq_seq ?_
        refine xc_seq ?_
        refine xc_seq ?_
        refine xc_region ?_
        refine xo_rd (rd_move rfl) rfl ?_
        refine xo_rd (rd_neq rfl rfl) rfl ?_
        refine xo_rd (rd_move rfl) rfl ?_
        refine xo_gskip rfl rfl rfl rfl ?_
        refine xo_gskip rfl rfl rfl rfl ?_
        refine xo_rd (rd_pickt rfl rfl) rfl ?_
        refine xo_nil ?_
        refine xq_seq ?_
        refine xc_condt rfl ?_
        refine xc_seq ?_
        refine xc_region ?_
        refine xo_rd (rd_assign rfl) rfl ?_
        refine xo_rd (rd_assign rfl) rfl ?_
        refine xo_nil ?_
        refine xq_seq ?_
        refine xc_ret ?_
        refine xq_then_ret ?_
      exact xq_sub (List.sublist_cons_self _ _) (xq_ret2 (.inl rfl) Tryz.results7 rfl rfl ⟨rfl, rfl⟩)
end Go.Proofs.YtmdeajdaeihniaaGreat.X
/-
  Chapter 25: who joins: a walk of my own.
-/
namespace Go.Proofs.YtmdeajdaeihniaaGreat.X
open Go Go.RowKit
set_option linter.unusedVariables false
set_option linter.unusedSimpArgs false
def jnE (a : Ra) (m : Mb) : Int := if 2147483647 < m.id then 2 else joinR a.most a.ms m
def jnA (a : Ra) (m : Mb) : Ra := if jnE a m = 0 then ⟨a.most, a.ms ++ [m], joinF a.fl m.id m.mod, a.ws ++ [⟨m.id, false, []⟩]⟩ else a
theorem joinR_ok {most : Int} {l : List Mb} {m : Mb} (h : joinR most l m = 0) : m.right ∧ getId l m.id = none := by
  unfold joinR at h
  split at h
  · cases h
  · rename_i hr
    split at h
    · cases h
    · rename_i hg
      exact ⟨Decidable.not_not.1 hr, by simpa using hg⟩
def newW (id : Int) : Wm := ⟨⟨id, false, []⟩, none, 0, []⟩
theorem watF_none {ws : List Wm} {id : Int} (h : id ∉ ws.map fun w => w.a.id) : watF ws id = none := by
  unfold watF
  rw [List.find?_eq_none]
  intro w hw he
  exact h (List.mem_map.2 ⟨w, hw, by simpa using he⟩)
theorem watV_snoc {ws : List Wm} {w : Wm} (h : w.a.id ∉ ws.map fun w => w.a.id) (z : Int) : watV (ws ++ [w]) z = mupd (watV ws) w.a.id (some w.v) z := by
  unfold mupd watV
  by_cases hz : z = w.a.id
  · subst hz
    rw [if_pos rfl]
    have := watF_none h
    unfold watF at this ⊢
    rw [List.find?_append, this]
    simp
  · rw [if_neg hz]
    congr 1
    unfold watF
    rw [List.find?_append]
    have : (w.a.id == z) = false := by simp; exact fun e => hz e.symm
    rw [List.find?_cons, this]
    simp
theorem wlb_snoc (ws : List Wm) (w : Wm) : wlb (ws ++ [w]) = wlb ws ++ w.l := by unfold wlb; rw [List.flatMap_append, List.flatMap_singleton]
theorem perm_ro3 {a b c : Blk} (w m F : List Blk) : (a :: b :: c :: (w ++ (m ++ F))).Perm (m ++ (a :: b :: c :: (w ++ F))) := (by classical exact List.perm_iff_count.2 fun a => by simp only [List.append_eq, List.count_append, List.count_cons, List.count_nil, List.cons_append, List.nil_append, List.flatMap_append, List.flatMap_cons, List.flatMap_nil, List.append_nil]; omega)
/-- A call of the roster's, with three blocks ahead of what is watched. -/
theorem xj_ro {W : World} {a b c : Blk} {w F : List Blk} (x : Ro) {f : FuncId} {args : Array Value} {u : Value} {most : Int} {ms : List Mb} (h : ∀ R, XF Tryz.prog W f args (x.blks ++ R) (fun v L' => v = u ∧ ∃ y : Ro, y.Ok ∧ y.c = x.c ∧ y.most = most ∧ y.ms = ms ∧ L' = y.blks ++ R)) :
    XF Tryz.prog W f args (a :: b :: c :: (w ++ (x.blks ++ F))) (fun v L' => v = u ∧ ∃ y : Ro, (y.Ok ∧ y.c = x.c ∧ y.most = most ∧ y.ms = ms) ∧ L' = a :: b :: c :: (w ++ (y.blks ++ F))) :=
  ((h _).perm (perm_ro3 w x.blks F)).mapK fun v L' ⟨hv, y, h1, h2, h3, h4, hL⟩ => ⟨_, hL ▸ (perm_ro3 w y.blks F).symm, hv, y, ⟨h1, h2, h3, h4⟩, rfl⟩
theorem perm_fm3 {a b c : Blk} (w m : List Blk) (fr : Nat) (x : Fm) (F : List Blk) : (a :: b :: c :: (w ++ (m ++ x.blks fr F))).Perm (x.blks fr ((a :: b :: c :: (w ++ m)) ++ F)) := by
  refine List.Perm.trans ?_ (Fm.blks_perm fr x _ F)
  rw [List.cons_append, List.cons_append, List.cons_append, List.append_assoc]
theorem xj_fm {W : World} {a b c : Blk} {w m F : List Blk} (fr : Nat) (x : Fm) {f : FuncId} {args : Array Value} {u : Value} {g : Fa} (h : ∀ R, XF Tryz.prog W f args (x.blks fr R) (fun v L' => v = u ∧ ∃ y : Fm, y.Ok ∧ y.a = g ∧ L' = y.blks fr R)) :
    XF Tryz.prog W f args (a :: b :: c :: (w ++ (m ++ x.blks fr F))) (fun v L' => v = u ∧ ∃ y : Fm, (y.Ok ∧ y.a = g) ∧ L' = a :: b :: c :: (w ++ (m ++ y.blks fr F))) :=
  ((h _).perm (perm_fm3 w m fr x F)).mapK fun v L' ⟨hv, y, h1, h2, hL⟩ => ⟨_, hL ▸ (perm_fm3 w m fr y F).symm, hv, y, ⟨h1, h2⟩, rfl⟩
set_option maxHeartbeats 800000 in
theorem xf_RJoin {W : World} {L : List Blk} (r : Nat) (x : Rm) (hx : x.Ok) (m : Mb) : XF Tryz.prog W 38 #[.pointer (some ⟨r, 0, none⟩), .agg m.enc.toArray] (x.blks r L) (fun v L' => v = .int .i64 (jnE x.ra m) ∧ ∃ y : Rm, y.Ok ∧ y.ra = jnA x.ra m ∧ L' = y.blks r L) := by
  have hE : jnE x.ra m = if 2147483647 < m.id then 2 else joinR x.ro.most x.ro.ms m := rfl
  refine xf_enter (args := [_, _]) Tryz.func38 rfl Tryz.ntmps38 rfl ?_
  by_cases hbig : 2147483647 < m.id
  · rw [if_pos hbig] at hE
    focus
      refine xc_seq ?_
      refine xc_region ?_
      refine xo_ef rfl (ef_box rfl fun r3 => ?_)
      refine xo_rd (rd_assign rfl) rfl ?_
      refine xo_nil ?_
      refine xq_seq ?_
      refine xc_seq ?_
      refine xc_block ?_
      refine xc_seq ?_
      refine xc_region ?_
      refine xo_rd (rd_move rfl) rfl ?_
      refine xo_rd (rd_eqnil rfl) rfl ?_
      refine xo_rd (rd_assign rfl) rfl ?_
      refine xo_nil ?_
      refine xq_seq ?_
      refine xc_condf rfl ?_
      refine xc_seq ?_
      refine xc_region ?_
      refine xo_rd (rd_fieldAddr rfl) rfl ?_
      refine xo_rd (rd_load1 rfl (Cl.o0 rfl)) rfl ?_
      refine xo_rd (rd_gtr rfl rfl) rfl ?_
      refine xo_rd (rd_assign rfl) rfl ?_
      refine xo_nil ?_
      refine xq_seq ?_
      refine xc_dec rfl (fun h1 => ?_) (fun h1 => (by exfalso; omega))
      refine xc_seq ?_
      refine xc_region ?_
      refine xo_rd (rd_assign rfl) rfl ?_
      refine xo_nil ?_
      refine xq_seq ?_
      refine xc_ret ?_
      refine xq_block_ret ?_
      refine xq_then_ret ?_
    exact xq_sub (List.sublist_cons_self _ _) (xq_ret1 (.inl rfl) Tryz.results38 rfl ⟨by rw [hE], x, hx, by rw [jnA, hE]; rfl, rfl⟩)
  rw [if_neg hbig] at hE
  unfold Rm.blks
  have hjn := fun a b c F => xj_ro (W := W) (a := a) (b := b) (c := c) (w := wlb x.ws) (F := F) x.ro (fun R => xf_join x.ro hx.ro m)
  by_cases hj : joinR x.ro.most x.ro.ms m = 0
  · rw [hj] at hE hjn
    focus
      refine xc_seq ?_
      refine xc_region ?_
      refine xo_ef rfl (ef_box rfl fun r3 => ?_)
      refine xo_rd (rd_assign rfl) rfl ?_
      refine xo_nil ?_
      refine xq_seq ?_
      refine xc_seq ?_
      refine xc_block ?_
      refine xc_seq ?_
      refine xc_region ?_
      refine xo_rd (rd_move rfl) rfl ?_
      refine xo_rd (rd_eqnil rfl) rfl ?_
      refine xo_rd (rd_assign rfl) rfl ?_
      refine xo_nil ?_
      refine xq_seq ?_
      refine xc_condf rfl ?_
      refine xc_seq ?_
      refine xc_region ?_
      refine xo_rd (rd_fieldAddr rfl) rfl ?_
      refine xo_rd (rd_load1 rfl (Cl.o0 rfl)) rfl ?_
      refine xo_rd (rd_gtr rfl rfl) rfl ?_
      refine xo_rd (rd_assign rfl) rfl ?_
      refine xo_nil ?_
      refine xq_seq ?_
      refine xc_dec rfl (fun h1 => (by exfalso; omega)) (fun h1 => ?_)
      refine xc_skip ?_
      refine xq_block ?_
      refine xq_seq ?_
      refine xc_seq ?_
      refine xc_seq ?_
      refine xc_drawM [0, 1, 2, 4, 8, 0, 48, 127] [0, 1, 2, 4, 8, 0, 48, 127] ([(r3, Obj.cells m.enc.toArray 49 (0, 0)), (r, Obj.cells (rcl x.ro.c x.fr x.mb).toArray 81 (0, 0))]) (by kernel_rfl) (by kernel_rfl) (by kernel_rfl) ?_
      refine xm_take 0 (m' := 1) rfl (by kernel_rfl) Sb.a (rd_move rfl) rfl (by kernel_rfl) ?_
      refine xm_take 1 (m' := 3) rfl (by kernel_rfl) Sb.a (rd_nilCheck rfl) rfl (by kernel_rfl) ?_
      refine xm_take 2 (m' := 7) rfl (by kernel_rfl) Sb.a (rd_fieldAddr rfl) rfl (by kernel_rfl) ?_
      refine xm_take 3 (m' := 15) rfl (by kernel_rfl) Sb.a (rd_fieldAddr rfl) rfl (by kernel_rfl) ?_
      refine xm_take 4 (m' := 31) rfl (by kernel_rfl) Sb.a (rd_load1 rfl (Cl.own (List.mem_cons_of_mem _ List.mem_cons_self) rfl)) rfl (by kernel_rfl) ?_
      refine xm_take 5 (m' := 63) rfl (by kernel_rfl) Sb.a (rd_loadB rfl Kn.o0 (by rfl)) rfl (by kernel_rfl) ?_
      refine xm_one 6 (m' := 127) rfl (by kernel_rfl) rfl (by kernel_rfl) (ef_call rfl (XF.mono (hjn _ _ _ _) ?_))
      rintro v L' ⟨rfl, y, ⟨hy, hyc, hym, hyms⟩, rfl⟩
      refine ⟨Sb.a, ?_⟩
      refine xm_take 7 (m' := 255) rfl (by kernel_rfl) Sb.a (rd_assign rfl) rfl (by kernel_rfl) ?_
      refine xm_done (by kernel_rfl) ?_
      refine xq_seq ?_
      refine xc_seq ?_
      refine xc_region ?_
      refine xo_rd (rd_move rfl) rfl ?_
      refine xo_rd (rd_neq rfl rfl) rfl ?_
      refine xo_nil ?_
      refine xq_seq ?_
      refine xc_condf rfl ?_
      refine xc_skip ?_
      refine xq_seq ?_
    obtain ⟨hright, hget⟩ := joinR_ok hj
    have hid0 : 0 ≤ m.id := by
      rcases Int.lt_or_le m.id 0 with h | h
      · exact absurd (.inl h) hright
      · exact h
    have hym2 : y.ms = x.ro.ms ++ [m] := by rw [hyms]; unfold joinL; rw [if_pos hj]
    have hni : m.id ∉ x.ws.map fun w => w.a.id := by rw [hx.ids]; exact getId_none hget
    have hwn : (watV x.ws m.id).isSome = false := by unfold watV; rw [watF_none hni]; rfl
    have hfj := fun a b c mm F => xj_fm (W := W) (a := a) (b := b) (c := c) (w := wlb x.ws) (m := mm) (F := F) x.fr x.fm (fun R => xf_Join x.fr x.fm hx.fm m.id m.mod)
    generalize joinE x.fm.a m.id = je at *
    focus
      refine xc_seq ?_
      refine xc_drawM [0, 1, 2, 4, 0, 16, 32, 0, 128, 328] [0, 1, 2, 4, 0, 16, 32, 0, 128, 328] ([(r3, Obj.cells m.enc.toArray 49 (0, 0)), (r, Obj.cells (rcl x.ro.c x.fr x.mb).toArray 81 (0, 0))]) (by kernel_rfl) (by kernel_rfl) (by kernel_rfl) ?_
      refine xm_take 0 (m' := 1) rfl (by kernel_rfl) Sb.a (rd_move rfl) rfl (by kernel_rfl) ?_
      refine xm_take 1 (m' := 3) rfl (by kernel_rfl) Sb.a (rd_nilCheck rfl) rfl (by kernel_rfl) ?_
      refine xm_take 2 (m' := 7) rfl (by kernel_rfl) Sb.a (rd_fieldAddr rfl) rfl (by kernel_rfl) ?_
      refine xm_take 3 (m' := 15) rfl (by kernel_rfl) Sb.a (rd_load1 rfl (Cl.own (List.mem_cons_of_mem _ List.mem_cons_self) rfl)) rfl (by kernel_rfl) ?_
      refine xm_take 4 (m' := 31) rfl (by kernel_rfl) Sb.a (rd_fieldAddr rfl) rfl (by kernel_rfl) ?_
      refine xm_take 5 (m' := 63) rfl (by kernel_rfl) Sb.a (rd_load1 rfl (Cl.o0 rfl)) rfl (by kernel_rfl) ?_
      refine xm_take 6 (m' := 127) rfl (by kernel_rfl) Sb.a (rd_convn rfl (by omega) (by omega)) rfl (by kernel_rfl) ?_
      refine xm_take 7 (m' := 255) rfl (by kernel_rfl) Sb.a (rd_fieldAddr rfl) rfl (by kernel_rfl) ?_
      refine xm_take 8 (m' := 511) rfl (by kernel_rfl) Sb.a (rd_load1 rfl (Cl.o0 rfl)) rfl (by kernel_rfl) ?_
      refine xm_one 9 (m' := 1023) rfl (by kernel_rfl) rfl (by kernel_rfl) (ef_call rfl (XF.mono (hfj _ _ _ _ _) ?_))
      rintro v L' ⟨rfl, z, ⟨hz, hza⟩, rfl⟩
      refine ⟨Sb.a, ?_⟩
      refine xm_done (by kernel_rfl) ?_
      refine xq_seq ?_
    focus
      refine xc_seq ?_
      refine xc_drawM [0, 1, 2, 4, 0, 16, 0, 127] [0, 1, 2, 4, 0, 16, 0, 127] ([(r3, Obj.cells m.enc.toArray 49 (0, 0)), (r, Obj.cells (rcl x.ro.c x.fr x.mb).toArray 81 (0, 0))]) (by kernel_rfl) (by kernel_rfl) (by kernel_rfl) ?_
      refine xm_take 0 (m' := 1) rfl (by kernel_rfl) Sb.a (rd_move rfl) rfl (by kernel_rfl) ?_
      refine xm_take 1 (m' := 3) rfl (by kernel_rfl) Sb.a (rd_nilCheck rfl) rfl (by kernel_rfl) ?_
      refine xm_take 2 (m' := 7) rfl (by kernel_rfl) Sb.a (rd_fieldAddr rfl) rfl (by kernel_rfl) ?_
      refine xm_take 3 (m' := 15) rfl (by kernel_rfl) Sb.a (rd_load1 rfl (Cl.o1 rfl)) rfl (by kernel_rfl) ?_
      refine xm_take 4 (m' := 31) rfl (by kernel_rfl) Sb.a (rd_fieldAddr rfl) rfl (by kernel_rfl) ?_
      refine xm_take 5 (m' := 63) rfl (by kernel_rfl) Sb.a (rd_load1 rfl (Cl.o0 rfl)) rfl (by kernel_rfl) ?_
      refine xm_take 6 (m' := 127) rfl (by kernel_rfl) Sb.a (rd_cast (v' := .agg (wEnc false none 0 0).toArray) (rd_build (T := 64) rfl rfl rfl) (by kernel_rfl)) rfl (by kernel_rfl) ?_
      refine xm_one 7 (m' := 255) rfl (by kernel_rfl) rfl (by kernel_rfl) (ef_mapUpdate [_, _] _ hx.mp rfl rfl rfl rfl fun mo2 hmp2 => ?_)
      refine ⟨Sb.a, ?_⟩
      refine xm_done (by kernel_rfl) ?_
      refine xq_seq ?_
      refine xc_seq ?_
      refine xc_region ?_
      refine xo_rd (rd_assign rfl) rfl ?_
      refine xo_nil ?_
      refine xq_seq ?_
      refine xc_ret ?_
    have hmp3 : MpIs .i64 mo2 (watV (x.ws ++ [newW m.id])) (x.ws ++ [newW m.id]).length := hmp2.cong (fun z => (watV_snoc (w := newW m.id) hni z).symm) (by rw [hwn, List.length_append]; rfl)
    have hyo : (Rm.mk y x.fr z x.mb mo2 (x.ws ++ [newW m.id])).Ok := by
      refine ⟨hy, hz, hmp3, fun w hw => ?_, ?_, fun u hu => ?_⟩
      · rcases List.mem_append.1 hw with h | h
        · exact hx.wo w h
        · rw [List.mem_singleton.1 h]; exact ⟨SlQ.nil, Nat.zero_le _⟩
      · dsimp only
        rw [hym2, List.map_append, List.map_append, hx.ids]; rfl
      · dsimp only at hu
        rw [hym2] at hu
        rcases List.mem_append.1 hu with h | h
        · exact hx.rg u h
        · rw [List.mem_singleton.1 h]; omega
    have hra : (Rm.mk y x.fr z x.mb mo2 (x.ws ++ [newW m.id])).ra = jnA x.ra m := by
      rw [jnA, hE, if_pos rfl]
      unfold Rm.ra Rm.was
      dsimp only
      rw [hym, hym2, hza, List.map_append]; rfl
    all_goals exact xq_sub (List.sublist_cons_self _ _) (xq_ret1 (.inl rfl) Tryz.results38 rfl ⟨by rw [hE], _, hyo, hra, by dsimp only; rw [hyc, wlb_snoc, show (newW m.id).l = [] from rfl, List.append_nil]; rfl⟩)
  · have hjl : joinL x.ro.most x.ro.ms m = x.ro.ms := by unfold joinL; rw [if_neg hj]
    rw [hjl] at hjn
    generalize hje : joinR x.ro.most x.ro.ms m = je at *
    focus
      refine xc_seq ?_
      refine xc_region ?_
      refine xo_ef rfl (ef_box rfl fun r3 => ?_)
      refine xo_rd (rd_assign rfl) rfl ?_
      refine xo_nil ?_
      refine xq_seq ?_
      refine xc_seq ?_
      refine xc_block ?_
      refine xc_seq ?_
      refine xc_region ?_
      refine xo_rd (rd_move rfl) rfl ?_
      refine xo_rd (rd_eqnil rfl) rfl ?_
      refine xo_rd (rd_assign rfl) rfl ?_
      refine xo_nil ?_
      refine xq_seq ?_
      refine xc_condf rfl ?_
      refine xc_seq ?_
      refine xc_region ?_
      refine xo_rd (rd_fieldAddr rfl) rfl ?_
      refine xo_rd (rd_load1 rfl (Cl.o0 rfl)) rfl ?_
      refine xo_rd (rd_gtr rfl rfl) rfl ?_
      refine xo_rd (rd_assign rfl) rfl ?_
      refine xo_nil ?_
      refine xq_seq ?_
      refine xc_dec rfl (fun h1 => (by exfalso; omega)) (fun h1 => ?_)
      refine xc_skip ?_
      refine xq_block ?_
      refine xq_seq ?_
      refine xc_seq ?_
      refine xc_seq ?_
      refine xc_drawM [0, 1, 2, 4, 8, 0, 48, 127] [0, 1, 2, 4, 8, 0, 48, 127] ([(r3, Obj.cells m.enc.toArray 49 (0, 0)), (r, Obj.cells (rcl x.ro.c x.fr x.mb).toArray 81 (0, 0))]) (by kernel_rfl) (by kernel_rfl) (by kernel_rfl) ?_
      refine xm_take 0 (m' := 1) rfl (by kernel_rfl) Sb.a (rd_move rfl) rfl (by kernel_rfl) ?_
      refine xm_take 1 (m' := 3) rfl (by kernel_rfl) Sb.a (rd_nilCheck rfl) rfl (by kernel_rfl) ?_
      refine xm_take 2 (m' := 7) rfl (by kernel_rfl) Sb.a (rd_fieldAddr rfl) rfl (by kernel_rfl) ?_
      refine xm_take 3 (m' := 15) rfl (by kernel_rfl) Sb.a (rd_fieldAddr rfl) rfl (by kernel_rfl) ?_
      refine xm_take 4 (m' := 31) rfl (by kernel_rfl) Sb.a (rd_load1 rfl (Cl.own (List.mem_cons_of_mem _ List.mem_cons_self) rfl)) rfl (by kernel_rfl) ?_
      refine xm_take 5 (m' := 63) rfl (by kernel_rfl) Sb.a (rd_loadB rfl Kn.o0 (by rfl)) rfl (by kernel_rfl) ?_
      refine xm_one 6 (m' := 127) rfl (by kernel_rfl) rfl (by kernel_rfl) (ef_call rfl (XF.mono (hjn _ _ _ _) ?_))
      rintro v L' ⟨rfl, y, ⟨hy, hyc, hym, hyms⟩, rfl⟩
      refine ⟨Sb.a, ?_⟩
      refine xm_take 7 (m' := 255) rfl (by kernel_rfl) Sb.a (rd_assign rfl) rfl (by kernel_rfl) ?_
      refine xm_done (by kernel_rfl) ?_
      refine xq_seq ?_
      refine xc_seq ?_
      refine xc_region ?_
      refine xo_rd (rd_move rfl) rfl ?_
      refine xo_rd (rd_neq rfl rfl) rfl ?_
      refine xo_nil ?_
      refine xq_seq ?_
      refine xc_ndec rfl (fun h2 => ?_) (fun h2 => (by exfalso; omega))
      refine xc_seq ?_
      refine xc_region ?_
      refine xo_rd (rd_move rfl) rfl ?_
      refine xo_rd (rd_assign rfl) rfl ?_
      refine xo_nil ?_
      refine xq_seq ?_
      refine xc_ret ?_
      refine xq_then_ret ?_
    have hyo : (Rm.mk y x.fr x.fm x.mb x.mo x.ws).Ok := ⟨hy, hx.fm, hx.mp, hx.wo, by dsimp only; rw [hyms]; exact hx.ids, by dsimp only; rw [hyms]; exact hx.rg⟩
    all_goals exact xq_sub (List.sublist_cons_self _ _) (xq_ret1 (.inl rfl) Tryz.results38 rfl ⟨by rw [hE], _, hyo, by rw [jnA, hE, if_neg hj]; unfold Rm.ra Rm.was; dsimp only; rw [hym, hyms], by dsimp only; rw [hyc]⟩)
end Go.Proofs.YtmdeajdaeihniaaGreat.X
/-
  Chapter 25: who subscribes: a walk of my own.
-/
namespace Go.Proofs.YtmdeajdaeihniaaGreat.X
open Go Go.RowKit
set_option linter.unusedVariables false
set_option linter.unusedSimpArgs false
/-- What is watched may be watched: a member, and nobody twice, nor oneself. -/
def dupI (id : Int) (l : List Int) : Bool := match l with
  | [] => false
  | _ => (List.range l.length).any fun i => decide (l.getD i 0 = id) || decide (l.getD i 0 ∈ l.take i)
def sbE (a : Ra) (id : Int) (cs : List Int) : Int := if ((id :: cs).all fun k => (getId a.ms k).isSome) = true then (if dupI id cs = true then 2 else 0) else 130
def setW (ws : List Wa) (w : Wa) : List Wa := ws.map fun u => if u.id = w.id then w else u
def sbA (a : Ra) (id : Int) (ct : Bool) (cs : List Int) : Ra := if sbE a id cs = 0 then { a with ws := setW a.ws ⟨id, ct, cs⟩ } else a
theorem dupI_def (id : Int) (l : List Int) : dupI id l = (List.range l.length).any fun i => decide (l.getD i 0 = id) || decide (l.getD i 0 ∈ l.take i) := by
  cases l <;> rfl
theorem sub_sb {r5 r m : Blk} (l A w B F : List Blk) : (r :: m :: (l ++ ((A ++ B) ++ F))).Sublist (r5 :: r :: m :: (l ++ ((A ++ (w ++ B)) ++ F))) :=
  (((List.Sublist.refl l).append (((List.Sublist.refl A).append (List.sublist_append_right w B)).append (List.Sublist.refl F))).cons_cons _ |>.cons_cons _).trans (List.sublist_cons_self _ _)
theorem perm_sb {r m : Blk} (l A B F : List Blk) : (r :: m :: (l ++ ((A ++ B) ++ F))).Perm (r :: m :: ((A ++ (l ++ B)) ++ F)) := (by classical exact List.perm_iff_count.2 fun a => by simp only [List.append_eq, List.count_append, List.count_cons, List.count_nil, List.cons_append, List.nil_append, List.flatMap_append, List.flatMap_cons, List.flatMap_nil, List.append_nil]; omega)
theorem wm_split {ws : List Wm} {id : Int} (h : id ∈ ws.map fun w => w.a.id) (hn : (ws.map fun w => w.a.id).Nodup) : ∃ A w B, ws = A ++ w :: B ∧ w.a.id = id ∧ (∀ u, u ∈ A → u.a.id ≠ id) ∧ ∀ u, u ∈ B → u.a.id ≠ id := by
  obtain ⟨w, hw, he⟩ := List.mem_map.1 h
  obtain ⟨A, B, rfl⟩ := List.append_of_mem hw
  refine ⟨A, w, B, rfl, he, fun u hu e => ?_, fun u hu e => ?_⟩
  · rw [List.map_append, List.map_cons] at hn
    exact (List.nodup_append.1 hn).2.2 _ (List.mem_map.2 ⟨u, hu, rfl⟩) _ List.mem_cons_self (e.trans he.symm)
  · rw [List.map_append, List.map_cons] at hn
    have := (List.nodup_cons.1 (List.nodup_append.1 hn).2.1).1
    exact this (List.mem_map.2 ⟨u, hu, e.trans he.symm⟩)
theorem watF_split {A B : List Wm} {w : Wm} (hA : ∀ u, u ∈ A → u.a.id ≠ w.a.id) (z : Int) : watF (A ++ w :: B) z = if z = w.a.id then some w else watF (A ++ B) z := by
  unfold watF
  rw [List.find?_append, List.find?_append, List.find?_cons]
  by_cases hz : z = w.a.id
  · subst hz
    rw [if_pos rfl]
    have : A.find? (fun u => u.a.id == w.a.id) = none := by
      rw [List.find?_eq_none]
      intro u hu he
      exact hA u hu (by simpa using he)
    rw [this]; simp
  · rw [if_neg hz]
    have : (w.a.id == z) = false := by simp; exact fun e => hz e.symm
    rw [this]
theorem watV_swap {A B : List Wm} {w u : Wm} (he : u.a.id = w.a.id) (hA : ∀ v, v ∈ A → v.a.id ≠ w.a.id) (z : Int) : watV (A ++ u :: B) z = mupd (watV (A ++ w :: B)) w.a.id (some u.v) z := by
  show (watF (A ++ u :: B) z).map Wm.v = if z = w.a.id then some u.v else (watF (A ++ w :: B) z).map Wm.v
  rw [watF_split (w := u) (fun v hv => he ▸ hA v hv), watF_split hA, he]
  by_cases h : z = w.a.id
  · rw [if_pos h, if_pos h]; rfl
  · rw [if_neg h, if_neg h, if_neg h]
theorem wlb_split (A B : List Wm) (w : Wm) : wlb (A ++ w :: B) = wlb A ++ (w.l ++ wlb B) := by unfold wlb; rw [List.flatMap_append, List.flatMap_cons]
theorem was_swap {A B : List Wm} {w u : Wm} (he : u.a.id = w.a.id) (hA : ∀ v, v ∈ A → v.a.id ≠ w.a.id) (hB : ∀ v, v ∈ B → v.a.id ≠ w.a.id) : (A ++ u :: B).map Wm.a = setW ((A ++ w :: B).map Wm.a) u.a := by
  unfold setW
  rw [List.map_map, List.map_append, List.map_append, List.map_cons, List.map_cons]
  have h1 : ∀ l : List Wm, (∀ v, v ∈ l → v.a.id ≠ w.a.id) → l.map ((fun v : Wa => if v.id = u.a.id then u.a else v) ∘ Wm.a) = l.map Wm.a := fun l hl => List.map_congr_left fun v hv => by
    show (if v.a.id = u.a.id then u.a else v.a) = v.a
    rw [if_neg (by rw [he]; exact hl v hv)]
  rw [h1 A hA, h1 B hB]
  congr 2
  show u.a = if w.a.id = u.a.id then u.a else w.a
  rw [if_pos he.symm]
set_option maxHeartbeats 1600000 in
theorem xf_RSubscribe {W : World} {L : List Blk} (r : Nat) (x : Rm) (hx : x.Ok) (id : Int) (ct : Bool) (p : Option Addr) (n c : Nat) (cs : List Int) (hn : cs.length = n) (hrs : Rs W (x.blks r L) p (ints .i64 cs)) (hm : n ≤ 1000) (hnc : n ≤ c) : XF Tryz.prog W 16 #[.pointer (some ⟨r, 0, none⟩), .int .i64 id, .agg (wEnc ct p n c).toArray] (x.blks r L) (fun v L' => v = .int .i64 (sbE x.ra id cs) ∧ ∃ y : Rm, y.Ok ∧ y.ra = sbA x.ra id ct cs ∧ L' = y.blks r L) := by
  refine xf_enter (args := [_, _, _]) Tryz.func16 rfl Tryz.ntmps16 rfl ?_
  have hQ : ∀ r16, SlQ 1 3 (.slice (some ⟨r16, 0, none⟩) 1 1) 1 (ints .i64 [id]) [(r16, Obj.cells (ints .i64 [id]).toArray 3 (0, 0))] := fun r16 => .inr ⟨r16, 0, _, 1, rfl, rfl, Nat.le_refl _, by simp [ints], by simp [ints]⟩
  have hcl := hrs.mono (fun z hz => hz)
  focus
    refine xc_seq ?_
    refine xc_region ?_
    refine xo_ef rfl (ef_box rfl fun r5 => ?_)
    refine xo_rd (rd_assign rfl) rfl ?_
    refine xo_nil ?_
    refine xq_seq ?_
    refine xc_seq ?_
    refine xc_seq ?_
    refine xc_region ?_
    refine xo_rd (rd_move rfl) rfl ?_
    refine xo_rd (rd_eqnil rfl) rfl ?_
    refine xo_nil ?_
    refine xq_seq ?_
    refine xc_condf rfl ?_
    refine xc_skip ?_
    refine xq_seq ?_
    refine xc_seq ?_
    refine xc_seq ?_
    refine xc_region ?_
    refine xo_rd (rd_move rfl) rfl ?_
    refine xo_ef rfl (ef_buildL (T := 50) (len := 1) (s := 1) (cells := (ints .i64 [id]).toArray) rfl (by decide) (by decide) (by kernel_rfl) fun r16 => ?_)
    refine xo_rd (rd_fieldAddr rfl) rfl ?_
    refine xo_rd (rd_load1 rfl (Cl.o1 rfl)) rfl ?_
    refine xo_ef rfl (ef_appendQS [] _ [_] (news := ints .i64 cs) rfl rfl (hQ r16) rfl (hrs.mono (by intro z hz; simp [hz])) (by simp [ints, hn]) (ints_one _ _) (by decide) (by omega) (by omega) fun p2 c2 l2 hO2 hk2 => ?_)
    refine xo_rd (rd_len rfl) rfl ?_
    refine xo_rd (rd_move rfl) rfl ?_
    refine xo_nil ?_
    refine xq_seq ?_
    refine xc_block ?_
  have hks : (id :: cs).length = 1 + n := by rw [List.length_cons, hn]; omega
  have hkl : ints .i64 [id] ++ ints .i64 cs = ints .i64 (id :: cs) := rfl
  rw [hkl] at hO2
  refine xc_perm (L' := (r5, Obj.cells (wEnc ct p n c).toArray 64 (0, 0)) :: (l2 ++ x.blks r L)) List.perm_middle ?_
  have hget := fun k => (xr_get (W := W) (L := (r5, Obj.cells (wEnc ct p n c).toArray 64 (0, 0)) :: l2 ++ L) r x hx k).permK (x.front r (_ :: l2) L)
  refine xc_loopK (ι := Nat) (fun i => i ≤ 1 + n ∧ ((id :: cs).take i).all (fun k => (getId x.ro.ms k).isSome) = true) (fun i => 1 + n - i) (fun i => [(0, .pointer (some ⟨r, 0, none⟩)), (1, .int .i64 id), (5, .pointer (some ⟨r5, 0, none⟩)), (19, .slice p2 (1 + n) c2), (20, .int .i64 (1 + n : Nat)), (21, .int .i64 i)]) 0 ⟨Nat.zero_le _, rfl⟩ (by repeat (first | exact keep_nil | refine keep_cons rfl ?_)) ?_
  rintro i ⟨hi, hall⟩
  by_cases hin : i < 1 + n
  · have hr2 : Rs W ((r5, Obj.cells (wEnc ct p n c).toArray 64 (0, 0)) :: (l2 ++ x.blks r L)) p2 (ints .i64 (id :: cs)) := hO2.rs (by intro z hz; simp [hz])
    obtain ⟨b, o, hpb, hc⟩ := hr2.int (i := i) (by omega)
    subst hpb
    have e1 : (id :: cs)[i]? = some (id :: cs)[i] := List.getElem?_eq_getElem (by omega)
    generalize (id :: cs)[i] = k at *
    have hgk := hget k
    obtain ⟨g, hg⟩ : ∃ g, (getId x.ro.ms k).getD ⟨0, 0, 0, false⟩ = g := ⟨_, rfl⟩
    obtain ⟨s, hs⟩ : ∃ s, (getId x.ro.ms k).isSome = s := ⟨_, rfl⟩
    rw [hg, hs] at hgk
    cases s with
    | true =>
      focus
        refine xc_seq ?_
        refine xc_region ?_
        refine xo_rd (rd_lss rfl rfl) rfl ?_
        refine xo_nil ?_
        refine xq_seq ?_
        refine xc_seq ?_
        refine xc_dec rfl (fun h1 => ?_) (fun h1 => (by exfalso; omega))
        refine xc_skip ?_
        refine xq_seq ?_
        refine xc_seq ?_
        refine xc_block ?_
        refine xc_seq ?_
        refine xc_region ?_
        refine xo_rd (rd_indexAddr rfl rfl (by omega) (by omega)) rfl ?_
        refine xo_rd (rd_load1 rfl hc) rfl ?_
        refine xo_rd (rd_assign rfl) rfl ?_
        refine xo_nil ?_
        refine xq_seq ?_
        refine xc_seq ?_
        refine xc_region ?_
        refine xo_rd (rd_move rfl) rfl ?_
        refine xo_rd (rd_nilCheck rfl) rfl ?_
        refine xo_rd (rd_fieldAddr rfl) rfl ?_
        refine xo_rd (rd_fieldAddr rfl) rfl ?_
        refine xo_rd (rd_load1 rfl (Rm.cl (x := x) (r := r) (L := L) (by intro z hz; simp [hz]) 0 _ rfl)) rfl ?_
        refine xo_rd (rd_move rfl) rfl ?_
        refine xo_ef rfl (ef_call rfl (XF.mono (hgk) ?_))
        rintro v L' ⟨rfl, rfl⟩
        refine xo_rd (rd_move rfl) rfl ?_
        refine xo_rd (rd_extract rfl rfl) rfl ?_
        refine xo_rd (rd_extract rfl rfl) rfl ?_
        refine xo_ef rfl (ef_alloc fun r9 => ?_)
        refine xo_ef rfl (ef_storeB [] _ rfl rfl (by first | rfl | assumption) rfl rfl rfl ?_)
        refine xo_rd (rd_assign rfl) rfl ?_
        refine xo_nil ?_
        refine xq_seq ?_
        refine xc_seq ?_
        refine xc_region ?_
        refine xo_rd (rd_move rfl) rfl ?_
        refine xo_rd (rd_not rfl) rfl ?_
        refine xo_nil ?_
        refine xq_seq ?_
        refine xc_condf rfl ?_
        refine xc_skip ?_
        refine xq_block ?_
        refine xq_seq ?_
        refine xc_region ?_
        refine xo_rd (rd_addn rfl rfl (by omega) (by omega)) rfl ?_
        refine xo_rd (rd_move rfl) rfl ?_
        refine xo_nil ?_
      refine xq_roundK rfl (i + 1) ⟨by omega, ?_⟩ (by omega) (List.sublist_cons_self _ _) (by repeat (first | exact keep_nil | refine keep_cons rfl ?_))
      rw [List.take_add_one, e1, List.all_append, hall]
      simpa using hs
    | false =>
      have hE : sbE x.ra id cs = 130 := by
        unfold sbE
        rw [if_neg]
        intro h
        have := List.all_eq_true.1 h k (List.mem_of_getElem? e1)
        rw [show x.ra.ms = x.ro.ms from rfl, hs] at this; cases this
      focus
        refine xc_seq ?_
        refine xc_region ?_
        refine xo_rd (rd_lss rfl rfl) rfl ?_
        refine xo_nil ?_
        refine xq_seq ?_
        refine xc_seq ?_
        refine xc_dec rfl (fun h1 => ?_) (fun h1 => (by exfalso; omega))
        refine xc_skip ?_
        refine xq_seq ?_
        refine xc_seq ?_
        refine xc_block ?_
        refine xc_seq ?_
        refine xc_region ?_
        refine xo_rd (rd_indexAddr rfl rfl (by omega) (by omega)) rfl ?_
        refine xo_rd (rd_load1 rfl hc) rfl ?_
        refine xo_rd (rd_assign rfl) rfl ?_
        refine xo_nil ?_
        refine xq_seq ?_
        refine xc_seq ?_
        refine xc_region ?_
        refine xo_rd (rd_move rfl) rfl ?_
        refine xo_rd (rd_nilCheck rfl) rfl ?_
        refine xo_rd (rd_fieldAddr rfl) rfl ?_
        refine xo_rd (rd_fieldAddr rfl) rfl ?_
        refine xo_rd (rd_load1 rfl (Rm.cl (x := x) (r := r) (L := L) (by intro z hz; simp [hz]) 0 _ rfl)) rfl ?_
        refine xo_rd (rd_move rfl) rfl ?_
        refine xo_ef rfl (ef_call rfl (XF.mono (hgk) ?_))
        rintro v L' ⟨rfl, rfl⟩
        refine xo_rd (rd_move rfl) rfl ?_
        refine xo_rd (rd_extract rfl rfl) rfl ?_
        refine xo_rd (rd_extract rfl rfl) rfl ?_
        refine xo_ef rfl (ef_alloc fun r9 => ?_)
        refine xo_ef rfl (ef_storeB [] _ rfl rfl (by first | rfl | assumption) rfl rfl rfl ?_)
        refine xo_rd (rd_assign rfl) rfl ?_
        refine xo_nil ?_
        refine xq_seq ?_
        refine xc_seq ?_
        refine xc_region ?_
        refine xo_rd (rd_move rfl) rfl ?_
        refine xo_rd (rd_not rfl) rfl ?_
        refine xo_nil ?_
        refine xq_seq ?_
        refine xc_condt rfl ?_
        refine xc_seq ?_
        refine xc_region ?_
        refine xo_rd (rd_assign rfl) rfl ?_
        refine xo_nil ?_
        refine xq_seq ?_
        refine xc_ret ?_
        refine xq_block_ret ?_
        refine xq_then_ret ?_
        refine xq_then_ret ?_
        refine xq_block_ret ?_
        refine xq_then_ret ?_
      exact xq_sub (((List.sublist_append_right l2 _).trans (List.sublist_cons_self _ _)).trans (List.sublist_cons_self _ _)) (xq_ret1 (.inl rfl) Tryz.results16 rfl ⟨by rw [hE], x, hx, by rw [sbA, hE]; rfl, rfl⟩)
  · rw [List.take_of_length_le (by omega)] at hall
    focus
      refine xc_seq ?_
      refine xc_region ?_
      refine xo_rd (rd_lss rfl rfl) rfl ?_
      refine xo_nil ?_
      refine xq_seq ?_
      refine xc_seq ?_
      refine xc_dec rfl (fun h1 => (by exfalso; omega)) (fun h1 => ?_)
      refine xc_exit ?_
      refine xq_then_exit ?_
      refine xq_then_exit ?_
      refine xq_block_hit ?_
      refine xq_seq ?_
      refine xc_seq ?_
      refine xc_seq ?_
      refine xc_region ?_
      refine xo_rd (rd_fieldAddr rfl) rfl ?_
      refine xo_rd (rd_load1 rfl (Cl.o0 rfl)) rfl ?_
      refine xo_rd (rd_len rfl) rfl ?_
      refine xo_rd (rd_move rfl) rfl ?_
      refine xo_nil ?_
      refine xq_seq ?_
      refine xc_block ?_
    refine xc_sub (L' := (r5, Obj.cells (wEnc ct p n c).toArray 64 (0, 0)) :: x.blks r L) ((List.sublist_append_right l2 _).cons_cons _) ?_
    clear hget hO2
    refine xc_loopK (ι := Nat) (fun i => i ≤ n ∧ ∀ j, j < i → (decide (cs.getD j 0 = id) || decide (cs.getD j 0 ∈ cs.take j)) = false) (fun i => n - i) (fun i => [(0, .pointer (some ⟨r, 0, none⟩)), (1, .int .i64 id), (5, .pointer (some ⟨r5, 0, none⟩)), (39, .slice p n c), (40, .int .i64 n), (41, .int .i64 i)]) 0 ⟨Nat.zero_le _, fun j h => absurd h (Nat.not_lt_zero _)⟩ (by repeat (first | exact keep_nil | refine keep_cons rfl ?_)) ?_
    rintro i ⟨hi, hno⟩
    by_cases hin : i < n
    · obtain ⟨b, o, hpb, hc⟩ := (hrs.mono (L' := (r5, Obj.cells (wEnc ct p n c).toArray 64 (0, 0)) :: x.blks r L) (by intro z hz; simp [hz])).int (i := i) (by omega)
      have hrs0 := hrs
      subst hpb
      have e1 : cs[i]? = some cs[i] := List.getElem?_eq_getElem (by omega)
      have e2 : cs.getD i 0 = cs[i] := by rw [List.getD_eq_getElem?_getD, e1]; rfl
      generalize cs[i] = k at *
      have hct := xf_containsI (W := W) (L := (r5, Obj.cells (wEnc ct (some ⟨b, o, none⟩) n c).toArray 64 (0, 0)) :: x.blks r L) (some ⟨b, o, none⟩) i c (cs.take i) k (by rw [List.length_take]; omega) (by rw [ints_take]; exact (hrs0.take i).mono (by intro z hz; simp [hz])) (by omega)
      obtain ⟨s, hs⟩ : ∃ s, decide (0 ≤ ixOf (cs.take i) k) = s := ⟨_, rfl⟩
      rw [hs] at hct
      focus
        refine xc_seq ?_
        refine xc_region ?_
        refine xo_rd (rd_lss rfl rfl) rfl ?_
        refine xo_nil ?_
        refine xq_seq ?_
        refine xc_seq ?_
        refine xc_dec rfl (fun hz1 => ?_) (fun hz1 => (by exfalso; omega))
        refine xc_skip ?_
        refine xq_seq ?_
        refine xc_seq ?_
        refine xc_block ?_
        refine xc_seq ?_
        refine xc_region ?_
        refine xo_rd (rd_move rfl) rfl ?_
        refine xo_rd (rd_indexAddr rfl rfl (by omega) (by omega)) rfl ?_
        refine xo_rd (rd_load1 rfl hc) rfl ?_
        refine xo_rd (rd_assign rfl) rfl ?_
        refine xo_rd (rd_assign rfl) rfl ?_
        refine xo_nil ?_
        refine xq_seq ?_
        refine xc_seq ?_
        refine xc_region ?_
        refine xo_rd (rd_move rfl) rfl ?_
        refine xo_rd (rd_move rfl) rfl ?_
        refine xo_rd (rd_eql rfl rfl) rfl ?_
        refine xo_rd (rd_move rfl) rfl ?_
        refine xo_dec 49 rfl (fun hz2 => ?_) (fun hz2 => ?_)
        refine xo_gskip rfl rfl rfl rfl ?_
        refine xo_gskip rfl rfl rfl rfl ?_
        refine xo_gskip rfl rfl rfl rfl ?_
        refine xo_gskip rfl rfl rfl rfl ?_
        refine xo_gskip rfl rfl rfl rfl ?_
        refine xo_gskip rfl rfl rfl rfl ?_
        refine xo_rd (rd_pickt rfl rfl) rfl ?_
        refine xo_nil ?_
        refine xq_seq ?_
        refine xc_condt rfl ?_
        refine xc_seq ?_
        refine xc_region ?_
        refine xo_rd (rd_assign rfl) rfl ?_
        refine xo_nil ?_
        refine xq_seq ?_
        refine xc_ret ?_
        refine xq_block_ret ?_
        refine xq_then_ret ?_
        refine xq_then_ret ?_
        refine xq_block_ret ?_
        refine xq_then_ret ?_
        rotate_left
        refine xo_grd rfl rfl (rd_fieldAddr rfl) rfl ?_
        refine xo_grd rfl rfl (rd_load1 rfl (Cl.o0 rfl)) rfl ?_
        refine xo_grd rfl rfl (rd_move rfl) rfl ?_
        refine xo_grd rfl rfl (rd_cast (v' := .slice (some ⟨b, o, none⟩) i c) (rd_slHi rfl rfl (by omega) (by omega)) (by rw [Int.toNat_natCast])) rfl ?_
        refine xo_grd rfl rfl (rd_move rfl) rfl ?_
        refine xo_gef rfl rfl rfl (ef_call rfl (XF.mono (hct) ?_))
        rintro v L' ⟨rfl, rfl⟩
        refine xo_rd (rd_pickf rfl rfl) rfl ?_
        refine xo_nil ?_
        refine xq_seq ?_
        refine xc_cond rfl (fun hz3 => ?_) (fun hz3 => ?_)
        refine xc_seq ?_
        refine xc_region ?_
        refine xo_rd (rd_assign rfl) rfl ?_
        refine xo_nil ?_
        refine xq_seq ?_
        refine xc_ret ?_
        refine xq_block_ret ?_
        refine xq_then_ret ?_
        refine xq_then_ret ?_
        refine xq_block_ret ?_
        refine xq_then_ret ?_
        rotate_left
        refine xc_skip ?_
        refine xq_block ?_
        refine xq_seq ?_
        refine xc_region ?_
        refine xo_rd (rd_addn rfl rfl (by omega) (by omega)) rfl ?_
        refine xo_rd (rd_move rfl) rfl ?_
        refine xo_nil ?_
        rotate_left
      · have hE : sbE x.ra id cs = 2 := by
          unfold sbE
          rw [show x.ra.ms = x.ro.ms from rfl, if_pos hall, if_pos (by rw [dupI_def]; exact List.any_eq_true.2 ⟨i, List.mem_range.2 (by omega), by rw [e2, hz2, decide_eq_true rfl]; rfl⟩)]
        exact xq_sub (List.sublist_cons_self _ _) (xq_ret1 (.inl rfl) Tryz.results16 rfl ⟨by rw [hE], x, hx, by rw [sbA, hE]; rfl, rfl⟩)
      · have hE : sbE x.ra id cs = 2 := by
          unfold sbE
          rw [show x.ra.ms = x.ro.ms from rfl, if_pos hall, if_pos (by rw [dupI_def]; exact List.any_eq_true.2 ⟨i, List.mem_range.2 (by omega), by rw [e2, decide_eq_true (ixOf_mem (of_decide_eq_true (hs.trans hz3))), Bool.or_true]⟩)]
        exact xq_sub (List.sublist_cons_self _ _) (xq_ret1 (.inl rfl) Tryz.results16 rfl ⟨by rw [hE], x, hx, by rw [sbA, hE]; rfl, rfl⟩)
      · refine xq_roundK rfl (i + 1) ⟨by omega, fun j hj => ?_⟩ (by omega) (List.Sublist.refl _) (by repeat (first | exact keep_nil | refine keep_cons rfl ?_))
        rcases Nat.lt_or_ge j i with h | h
        · exact hno j h
        · have hji : j = i := by omega
          rw [hji, e2, decide_eq_false hz2, decide_eq_false (fun hm => by have := mem_ixOf hm; rw [decide_eq_true this] at hs; rw [← hs] at hz3; cases hz3)]; rfl
    · have hE : sbE x.ra id cs = 0 := by
        unfold sbE
        rw [show x.ra.ms = x.ro.ms from rfl, if_pos hall, if_neg]
        rw [dupI_def]
        intro h
        obtain ⟨j, hj, hd⟩ := List.any_eq_true.1 h
        rw [hno j (by have := List.mem_range.1 hj; omega)] at hd; cases hd
      have hidm : id ∈ x.ws.map fun w => w.a.id := by
        rw [hx.ids]
        have h1 := List.all_eq_true.1 hall id List.mem_cons_self
        by_cases hmem : id ∈ x.ro.ms.map Mb.id
        · exact hmem
        · exfalso
          obtain ⟨m, hm⟩ := Option.isSome_iff_exists.1 h1
          have h2 := List.mem_of_find?_eq_some hm
          have h3 := List.find?_some hm
          exact hmem (List.mem_map.2 ⟨m, h2, by simpa using h3⟩)
      obtain ⟨A, w0, B, hws, hw0, hA, hB⟩ := wm_split hidm (hx.ids ▸ hx.ro.fit.ids)
      have hsm : (watV x.ws id).isSome = true := by rw [hws]; unfold watV; rw [watF_split (w := w0) (fun u hu => hw0 ▸ hA u hu), if_pos hw0.symm]; rfl
      have hmp := hx.mp
      subst hn
      unfold Rm.blks
      focus
        refine xc_seq ?_
        refine xc_region ?_
        refine xo_rd (rd_lss rfl rfl) rfl ?_
        refine xo_nil ?_
        refine xq_seq ?_
        refine xc_seq ?_
        refine xc_dec rfl (fun h1 => (by exfalso; omega)) (fun h1 => ?_)
        refine xc_exit ?_
        refine xq_then_exit ?_
        refine xq_then_exit ?_
        refine xq_block_hit ?_
        refine xq_seq ?_
      focus
        refine xc_seq ?_
        refine xc_drawM [0, 1, 2, 4, 0, 0, 32, 127] [0, 1, 2, 4, 0, 0, 32, 127] ([(r5, Obj.cells (wEnc ct p cs.length c).toArray 64 (0, 0)), (r, Obj.cells (rcl x.ro.c x.fr x.mb).toArray 81 (0, 0))]) (by kernel_rfl) (by kernel_rfl) (by kernel_rfl) ?_
        refine xm_take 0 (m' := 1) rfl (by kernel_rfl) Sb.a (rd_move rfl) rfl (by kernel_rfl) ?_
        refine xm_take 1 (m' := 3) rfl (by kernel_rfl) Sb.a (rd_nilCheck rfl) rfl (by kernel_rfl) ?_
        refine xm_take 2 (m' := 7) rfl (by kernel_rfl) Sb.a (rd_fieldAddr rfl) rfl (by kernel_rfl) ?_
        refine xm_take 3 (m' := 15) rfl (by kernel_rfl) Sb.a (rd_load1 rfl (Cl.own (List.mem_cons_of_mem _ List.mem_cons_self) rfl)) rfl (by kernel_rfl) ?_
        refine xm_take 4 (m' := 31) rfl (by kernel_rfl) Sb.a (rd_move rfl) rfl (by kernel_rfl) ?_
        refine xm_take 5 (m' := 63) rfl (by kernel_rfl) Sb.a (rd_loadB rfl Kn.o0 (by rfl)) rfl (by kernel_rfl) ?_
        refine xm_one 6 (m' := 127) rfl (by kernel_rfl) rfl (by kernel_rfl) (ef_call rfl (XF.mono (xf_copied ct p cs.length c cs rfl (hrs.mono fun z hz => List.mem_cons_of_mem _ hz) (by omega)) ?_))
        rintro v L' ⟨q, k, l3, rfl, hO3, rfl⟩
        refine xmx_seg [_, _, _] l3 _ ?_
        refine ⟨Sb.a, ?_⟩
        refine xm_one 7 (m' := 255) rfl (by kernel_rfl) rfl (by kernel_rfl) (ef_mapUpdate [_, _] _ hmp rfl rfl rfl rfl fun mo2 hmp2 => ?_)
        refine ⟨Sb.a, ?_⟩
        refine xm_done (by kernel_rfl) ?_
        refine xq_seq ?_
        refine xc_seq ?_
        refine xc_region ?_
        refine xo_rd (rd_assign rfl) rfl ?_
        refine xo_nil ?_
        refine xq_seq ?_
        refine xc_ret ?_
      have hyo : (Rm.mk x.ro x.fr x.fm x.mb mo2 (A ++ ⟨⟨id, ct, cs⟩, q, k, l3⟩ :: B)).Ok := by
        have hmp3 : MpIs .i64 mo2 (watV (A ++ (Wm.mk ⟨id, ct, cs⟩ q k l3) :: B)) (A ++ (Wm.mk ⟨id, ct, cs⟩ q k l3) :: B).length := hmp2.cong (fun z => by rw [hws, watV_swap (w := w0) (u := Wm.mk ⟨id, ct, cs⟩ q k l3) hw0.symm (fun v hv => hw0 ▸ hA v hv) z, hw0]; rfl) (by rw [hsm, if_pos rfl, hws, List.length_append, List.length_append, List.length_cons, List.length_cons])
        refine ⟨hx.ro, hx.fm, hmp3, fun w hw => ?_, ?_, hx.rg⟩
        · dsimp only at hw
          rcases List.mem_append.1 hw with h | h
          · exact hx.wo w (by rw [hws]; exact List.mem_append_left _ h)
          · rcases List.mem_cons.1 h with h | h
            · rw [h]; exact ⟨hO3.q, by dsimp only; omega⟩
            · exact hx.wo w (by rw [hws]; exact List.mem_append_right _ (List.mem_cons_of_mem _ h))
        · have := hx.ids
          rw [hws] at this
          dsimp only
          rw [← this, List.map_append, List.map_append, List.map_cons, List.map_cons, hw0]
      have hra : (Rm.mk x.ro x.fr x.fm x.mb mo2 (A ++ ⟨⟨id, ct, cs⟩, q, k, l3⟩ :: B)).ra = sbA x.ra id ct cs := by
        rw [sbA, hE, if_pos rfl]
        unfold Rm.ra Rm.was
        dsimp only
        rw [was_swap (w := w0) (u := Wm.mk ⟨id, ct, cs⟩ q k l3) hw0.symm (fun v hv => hw0 ▸ hA v hv) (fun v hv => hw0 ▸ hB v hv), hws]
      all_goals
        rw [hws, wlb_split]
        exact xq_sub (sub_sb l3 (wlb A) w0.l (wlb B) _) (xq_perm (perm_sb l3 (wlb A) (wlb B) _) (xq_ret1 (.inl rfl) Tryz.results16 rfl ⟨by rw [hE], _, hyo, hra, by dsimp only; rw [wlb_split]⟩))
end Go.Proofs.YtmdeajdaeihniaaGreat.X
/-
  Chapter 25: who leaves: a walk of my own.
-/
namespace Go.Proofs.YtmdeajdaeihniaaGreat.X
open Go Go.RowKit
set_option linter.unusedVariables false
set_option linter.unusedSimpArgs false
def cutW (id : Int) (w : Wa) : Wa := ⟨w.id, w.ct, w.cs.filter fun x => !decide (x = id)⟩
def lvE (a : Ra) (id : Int) : Int := leaveR a.ms id
def lvA (a : Ra) (id now : Int) : Ra := if lvE a id = 0 then ⟨a.most, leaveL a.ms id, leaveF a.fl id now, (a.ws.filter fun w => !decide (w.id = id)).map (cutW id)⟩ else a
theorem MpR.cong {k : IntKind} {m : Nat} {o it : Obj} {f g : Int → Option Value} {s t : Nat} {left : List Int} {cur : Option Int} (h : MpR k m o it f s left cur) (hf : ∀ z, f z = g z) (hs : s = t) : MpR k m o it g t left cur := by
  obtain rfl : f = g := funext hf
  subst hs
  exact h
theorem MpR.nodup {k : IntKind} {m : Nat} {o it : Obj} {f : Int → Option Value} {s : Nat} {left : List Int} {cur : Option Int} (h : MpR k m o it f s left cur) : left.Nodup := by
  obtain ⟨l, c, seen, _, _, h3, _, h5, _, _, _, h9, h10, _⟩ := h
  exact h10
theorem ids_leave (l : List Mb) (id : Int) : (leaveL l id).map Mb.id = (l.map Mb.id).erase id := by
  unfold leaveL
  induction l with
  | nil => rfl
  | cons m r ih =>
    rw [List.eraseP_cons, List.map_cons, List.erase_cons]
    cases h : m.id == id
    · simp [ih]
    · simp
/-- Where the round over the watches stands. -/
structure LvS where
  ws : List Wm
  mo : Obj
  it : Obj
  left : List Int
theorem perm_lv {a b c d e : Blk} (l A B G : List Blk) : (a :: b :: c :: d :: e :: ((A ++ (l ++ B)) ++ G)).Perm (l ++ (a :: b :: c :: d :: e :: ((A ++ B) ++ G))) := (by classical exact List.perm_iff_count.2 fun a => by simp only [List.append_eq, List.count_append, List.count_cons, List.count_nil, List.cons_append, List.nil_append, List.flatMap_append, List.flatMap_cons, List.flatMap_nil, List.append_nil]; omega)
theorem sub_lv {r m : Blk} (A w B F : List Blk) : (r :: m :: ((A ++ B) ++ F)).Sublist (r :: m :: ((A ++ (w ++ B)) ++ F)) :=
  (((List.Sublist.refl A).append (List.sublist_append_right w B)).append (List.Sublist.refl F)).cons_cons _ |>.cons_cons _
set_option maxHeartbeats 3200000 in
theorem xf_RLeave {W : World} {L : List Blk} (r : Nat) (x : Rm) (hx : x.Ok) (id now : Int) (hg : x.fm.a.gs.length ≤ 1000000) : XF Tryz.prog W 20 #[.pointer (some ⟨r, 0, none⟩), .int .i64 id, .int .u64 now] (x.blks r L) (fun v L' => v = .int .i64 (lvE x.ra id) ∧ ∃ y : Rm, y.Ok ∧ y.ra = lvA x.ra id now ∧ L' = y.blks r L) := by
  have hE : lvE x.ra id = leaveR x.ro.ms id := rfl
  refine xf_enter (args := [_, _, _]) Tryz.func20 rfl Tryz.ntmps20 rfl ?_
  unfold Rm.blks
  have hlv := fun a b c F => xj_ro (W := W) (a := a) (b := b) (c := c) (w := wlb x.ws) (F := F) x.ro (fun R => xf_leave x.ro hx.ro id)
  by_cases hj : leaveR x.ro.ms id = 0
  · rw [hj] at hE hlv
    focus
      refine xc_seq ?_
      refine xc_region ?_
      refine xo_ef rfl (ef_box rfl fun r4 => ?_)
      refine xo_rd (rd_assign rfl) rfl ?_
      refine xo_nil ?_
      refine xq_seq ?_
      refine xc_seq ?_
      refine xc_seq ?_
      refine xc_region ?_
      refine xo_rd (rd_move rfl) rfl ?_
      refine xo_rd (rd_eqnil rfl) rfl ?_
      refine xo_nil ?_
      refine xq_seq ?_
      refine xc_condf rfl ?_
      refine xc_skip ?_
      refine xq_seq ?_
      refine xc_seq ?_
      refine xc_seq ?_
      refine xc_drawM [0, 1, 2, 4, 8, 0, 48, 127] [0, 1, 2, 4, 8, 0, 48, 127] ([(r4, Obj.cells #[.int .i64 id] 3 (0, 0)), (r, Obj.cells (rcl x.ro.c x.fr x.mb).toArray 81 (0, 0))]) (by kernel_rfl) (by kernel_rfl) (by kernel_rfl) ?_
      refine xm_take 0 (m' := 1) rfl (by kernel_rfl) Sb.a (rd_move rfl) rfl (by kernel_rfl) ?_
      refine xm_take 1 (m' := 3) rfl (by kernel_rfl) Sb.a (rd_nilCheck rfl) rfl (by kernel_rfl) ?_
      refine xm_take 2 (m' := 7) rfl (by kernel_rfl) Sb.a (rd_fieldAddr rfl) rfl (by kernel_rfl) ?_
      refine xm_take 3 (m' := 15) rfl (by kernel_rfl) Sb.a (rd_fieldAddr rfl) rfl (by kernel_rfl) ?_
      refine xm_take 4 (m' := 31) rfl (by kernel_rfl) Sb.a (rd_load1 rfl (Cl.own (List.mem_cons_of_mem _ List.mem_cons_self) rfl)) rfl (by kernel_rfl) ?_
      refine xm_take 5 (m' := 63) rfl (by kernel_rfl) Sb.a (rd_load1 rfl (Cl.o0 rfl)) rfl (by kernel_rfl) ?_
      refine xm_one 6 (m' := 127) rfl (by kernel_rfl) rfl (by kernel_rfl) (ef_call rfl (XF.mono (hlv _ _ _ _) ?_))
      rintro v L' ⟨rfl, y, ⟨hy, hyc, hym, hyms⟩, rfl⟩
      refine ⟨Sb.a, ?_⟩
      refine xm_take 7 (m' := 255) rfl (by kernel_rfl) Sb.a (rd_assign rfl) rfl (by kernel_rfl) ?_
      refine xm_done (by kernel_rfl) ?_
      refine xq_seq ?_
      refine xc_seq ?_
      refine xc_region ?_
      refine xo_rd (rd_move rfl) rfl ?_
      refine xo_rd (rd_neq rfl rfl) rfl ?_
      refine xo_nil ?_
      refine xq_seq ?_
      refine xc_condf rfl ?_
      refine xc_skip ?_
      refine xq_seq ?_
    have hgs : (getId x.ro.ms id).isSome = true := by
      unfold leaveR at hj
      split at hj
      · assumption
      · cases hj
    obtain ⟨m0, hm0⟩ := Option.isSome_iff_exists.1 hgs
    have hm0m := List.mem_of_find?_eq_some hm0
    have hm0i : m0.id = id := by simpa using List.find?_some hm0
    have hid0 : 0 ≤ id ∧ id ≤ 2147483647 := by
      have h1 := hx.rg m0 hm0m
      have h2 := hx.ro.fit.right m0 hm0m
      rw [hm0i] at h1
      rcases Int.lt_or_le id 0 with h | h
      · exact absurd (.inl (hm0i ▸ h)) h2
      · exact ⟨h, h1⟩
    have hidm : id ∈ x.ws.map fun w => w.a.id := by rw [hx.ids]; exact List.mem_map.2 ⟨m0, hm0m, hm0i⟩
    have hnd : (x.ws.map fun w => w.a.id).Nodup := hx.ids ▸ hx.ro.fit.ids
    obtain ⟨A, w0, B, hws, hw0, hA, hB⟩ := wm_split hidm hnd
    have hsm : (watV x.ws id).isSome = true := by rw [hws]; unfold watV; rw [watF_split (w := w0) (fun u hu => hw0 ▸ hA u hu), if_pos hw0.symm]; rfl
    have hfj := fun a b c mm F => xj_fm (W := W) (a := a) (b := b) (c := c) (w := wlb x.ws) (m := mm) (F := F) x.fr x.fm (fun R => xf_Leave x.fr x.fm hx.fm id now hg)
    generalize leaveE x.fm.a id = je at *
    focus
      refine xc_seq ?_
      refine xc_drawM [0, 1, 2, 4, 0, 16, 0, 104] [0, 1, 2, 4, 0, 16, 0, 104] ([(r4, Obj.cells #[.int .i64 id] 3 (0, 0)), (r, Obj.cells (rcl x.ro.c x.fr x.mb).toArray 81 (0, 0))]) (by kernel_rfl) (by kernel_rfl) (by kernel_rfl) ?_
      refine xm_take 0 (m' := 1) rfl (by kernel_rfl) Sb.a (rd_move rfl) rfl (by kernel_rfl) ?_
      refine xm_take 1 (m' := 3) rfl (by kernel_rfl) Sb.a (rd_nilCheck rfl) rfl (by kernel_rfl) ?_
      refine xm_take 2 (m' := 7) rfl (by kernel_rfl) Sb.a (rd_fieldAddr rfl) rfl (by kernel_rfl) ?_
      refine xm_take 3 (m' := 15) rfl (by kernel_rfl) Sb.a (rd_load1 rfl (Cl.own (List.mem_cons_of_mem _ List.mem_cons_self) rfl)) rfl (by kernel_rfl) ?_
      refine xm_take 4 (m' := 31) rfl (by kernel_rfl) Sb.a (rd_load1 rfl (Cl.o0 rfl)) rfl (by kernel_rfl) ?_
      refine xm_take 5 (m' := 63) rfl (by kernel_rfl) Sb.a (rd_convn rfl (by omega) (by omega)) rfl (by kernel_rfl) ?_
      refine xm_take 6 (m' := 127) rfl (by kernel_rfl) Sb.a (rd_move rfl) rfl (by kernel_rfl) ?_
      refine xm_one 7 (m' := 255) rfl (by kernel_rfl) rfl (by kernel_rfl) (ef_call rfl (XF.mono (hfj _ _ _ _ _) ?_))
      rintro v L' ⟨rfl, z, ⟨hz, hza⟩, rfl⟩
      refine ⟨Sb.a, ?_⟩
      refine xm_done (by kernel_rfl) ?_
      refine xq_seq ?_
    refine xc_join (ι := Obj) (fun mo2 => MpIs .i64 mo2 (mupd (watV x.ws) id none) (if (watV x.ws id).isSome then x.ws.length - 1 else x.ws.length)) (fun mo2 => (r4, Obj.cells #[.int .i64 id] 3 (0, 0)) :: (r, Obj.cells (rcl x.ro.c x.fr x.mb).toArray 81 (0, 0)) :: (x.mb, mo2) :: (wlb x.ws ++ (y.blks ++ z.blks x.fr L))) (fun mo2 => [(0, .pointer (some ⟨r, 0, none⟩)), (4, .pointer (some ⟨r4, 0, none⟩))]) ?_ ?_
    · skip
      focus
        refine xc_drawM [0, 1, 2, 4, 0, 24] [0, 1, 2, 4, 0, 24] ([(r4, Obj.cells #[.int .i64 id] 3 (0, 0)), (r, Obj.cells (rcl x.ro.c x.fr x.mb).toArray 81 (0, 0))]) (by kernel_rfl) (by kernel_rfl) (by kernel_rfl) ?_
        refine xm_take 0 (m' := 1) rfl (by kernel_rfl) Sb.a (rd_move rfl) rfl (by kernel_rfl) ?_
        refine xm_take 1 (m' := 3) rfl (by kernel_rfl) Sb.a (rd_nilCheck rfl) rfl (by kernel_rfl) ?_
        refine xm_take 2 (m' := 7) rfl (by kernel_rfl) Sb.a (rd_fieldAddr rfl) rfl (by kernel_rfl) ?_
        refine xm_take 3 (m' := 15) rfl (by kernel_rfl) Sb.a (rd_load1 rfl (Cl.o1 rfl)) rfl (by kernel_rfl) ?_
        refine xm_take 4 (m' := 31) rfl (by kernel_rfl) Sb.a (rd_load1 rfl (Cl.o0 rfl)) rfl (by kernel_rfl) ?_
        refine xm_one 5 (m' := 63) rfl (by kernel_rfl) rfl (by kernel_rfl) (ef_delete [_, _] _ hx.mp rfl rfl rfl fun mo2 hmp2 => ?_)
        refine ⟨Sb.a, ?_⟩
        refine xm_done (by kernel_rfl) ?_
      all_goals exact xq_joined mo2 hmp2 rfl (by repeat (first | exact keep_nil | refine keep_cons rfl ?_))
    intro mo2 hmp2
    have hmp3 : MpIs .i64 mo2 (watV (A ++ B)) (A ++ B).length := hmp2.cong (fun z => by
      show (if z = id then none else watV x.ws z) = _
      rw [hws]
      unfold watV
      rw [watF_split (w := w0) (fun u hu => hw0 ▸ hA u hu), hw0]
      by_cases h : z = id
      · rw [if_pos h, h]
        rw [watF_none]; rfl
        rw [List.map_append, List.mem_append]
        rintro (h1 | h1)
        · obtain ⟨u, hu, he⟩ := List.mem_map.1 h1; exact hA u hu he
        · obtain ⟨u, hu, he⟩ := List.mem_map.1 h1; exact hB u hu he
      · rw [if_neg h, if_neg h]) (by rw [hsm, if_pos rfl, hws, List.length_append, List.length_append, List.length_cons]; omega)
    have hndAB : ((A ++ B).map fun w => w.a.id).Nodup := by
      rw [hws] at hnd
      exact hnd.sublist (((List.Sublist.refl A).append (List.sublist_cons_self w0 B)).map _)
    refine xc_sub (L' := (r4, Obj.cells #[.int .i64 id] 3 (0, 0)) :: (r, Obj.cells (rcl x.ro.c x.fr x.mb).toArray 81 (0, 0)) :: (x.mb, mo2) :: (wlb (A ++ B) ++ (y.blks ++ z.blks x.fr L))) (by rw [hws, wlb_split]; unfold wlb; rw [List.flatMap_append]; exact (sub_lv _ _ _ _).cons_cons _) ?_
    focus
      refine xc_seq ?_
      refine xc_seq ?_
      refine xc_region ?_
      refine xo_rd (rd_move rfl) rfl ?_
      refine xo_rd (rd_nilCheck rfl) rfl ?_
      refine xo_rd (rd_fieldAddr rfl) rfl ?_
      refine xo_rd (rd_load1 rfl (Cl.o1 rfl)) rfl ?_
      refine xo_ef rfl (ef_range hmp3 rfl (.inr (List.mem_cons_of_mem _ (List.mem_cons_of_mem _ List.mem_cons_self))) fun r39 it left hrg hll hlm => ?_)
      refine xo_nil ?_
      refine xq_seq ?_
      refine xc_block ?_
    obtain ⟨a0, ha0⟩ : ∃ a0, (A ++ B).map Wm.a = a0 := ⟨_, rfl⟩
    have hwoAB : ∀ w, w ∈ A ++ B → w.Ok := fun w hw => hx.wo w (by rw [hws]; rcases List.mem_append.1 hw with h | h; exact List.mem_append_left _ h; exact List.mem_append_right _ (List.mem_cons_of_mem _ h))
    refine xc_loopI (ι := LvS) (fun s => s.ws.map Wm.a = a0.map (fun w => if w.id ∈ s.left then w else cutW id w) ∧ (∀ w, w ∈ s.ws → w.Ok) ∧ ∃ cur, MpR .i64 x.mb s.mo s.it (watV s.ws) s.ws.length s.left cur) (fun s => s.left.length) (fun s => (r39, s.it) :: (r4, Obj.cells #[.int .i64 id] 3 (0, 0)) :: (r, Obj.cells (rcl x.ro.c x.fr x.mb).toArray 81 (0, 0)) :: (x.mb, s.mo) :: (wlb s.ws ++ (y.blks ++ z.blks x.fr L))) (fun s => [(0, .pointer (some ⟨r, 0, none⟩)), (4, .pointer (some ⟨r4, 0, none⟩)), (39, .pointer (some ⟨r39, 0, none⟩))]) ⟨A ++ B, mo2, it, left⟩ ⟨?_, hwoAB, none, hrg⟩ rfl (by repeat (first | exact keep_nil | refine keep_cons rfl ?_)) ?_
    · dsimp only
      rw [ha0]
      have : ∀ w, w ∈ a0 → (if w.id ∈ left then w else cutW id w) = w := fun w hw => by
        rw [if_pos]
        rw [hlm, watV_some, ha0]
        unfold wfA
        rw [List.find?_isSome]
        exact ⟨w, hw, by simp⟩
      rw [List.map_congr_left this, List.map_id'']
      intro w; rfl
    rintro ⟨ws, mo, it, left⟩ ⟨hwa, hwo, cur, hrg⟩
    dsimp only at hwa hwo hrg ⊢
    cases left with
    | nil =>
      focus
        refine xc_seq ?_
        refine xc_region ?_
        refine xo_ef rfl (ef_next [] _ hrg rfl rfl (.inr (List.mem_cons_of_mem _ (List.mem_cons_of_mem _ (List.mem_cons_of_mem _ List.mem_cons_self)))) (fun _ => ?_) (fun n v it' hn => by cases hn))
        refine xo_rd (rd_extract rfl rfl) rfl ?_
        refine xo_nil ?_
        refine xq_seq ?_
        refine xc_seq ?_
        refine xc_condf rfl ?_
        refine xc_exit ?_
        refine xq_then_exit ?_
        refine xq_then_exit ?_
        refine xq_block_hit ?_
        refine xq_seq ?_
        refine xc_seq ?_
        refine xc_region ?_
        refine xo_rd (rd_assign rfl) rfl ?_
        refine xo_nil ?_
        refine xq_seq ?_
        refine xc_ret ?_
      have hyo : (Rm.mk y x.fr z x.mb mo ws).Ok := by
        refine ⟨hy, hz, hrg.is, hwo, ?_, fun m hm => ?_⟩
        · dsimp only
          rw [hyms, ids_leave, ← hx.ids, hws, List.map_append, List.map_cons, hw0, List.erase_append_right, List.erase_cons_head, ← List.map_append]
          · have h1 : ws.map (fun w => w.a.id) = (ws.map Wm.a).map Wa.id := by rw [List.map_map]; rfl
            have h2 : (A ++ B).map (fun w => w.a.id) = a0.map Wa.id := by rw [← ha0, List.map_map]; rfl
            rw [h1, h2, hwa, List.map_map]
            exact List.map_congr_left fun w _ => rfl
          · intro h1
            obtain ⟨u, hu, he⟩ := List.mem_map.1 h1; exact hA u hu he
        · dsimp only at hm
          rw [hyms] at hm
          exact hx.rg m (List.mem_of_mem_eraseP hm)
      have hra : (Rm.mk y x.fr z x.mb mo ws).ra = lvA x.ra id now := by
        rw [lvA, hE, if_pos rfl]
        unfold Rm.ra Rm.was
        dsimp only
        rw [hym, hyms, hza, hwa]
        congr 1
        rw [hws, List.map_append, List.map_cons, List.filter_append, List.filter_cons_of_neg (by simp [hw0]), ← List.filter_append, ← List.map_append, ha0, List.filter_eq_self.2]
        · exact List.map_congr_left fun w _ => if_neg (by simp)
        · intro w hw
          rw [← ha0] at hw
          obtain ⟨u, hu, rfl⟩ := List.mem_map.1 hw
          have : u.a.id ≠ id := by rcases List.mem_append.1 hu with h | h; exact hA u h; exact hB u h
          simp [this]
      exact xq_sub (List.sublist_append_right [_, _] _) (xq_ret1 (.inl rfl) Tryz.results20 rfl ⟨by rw [hE], _, hyo, hra, by dsimp only; rw [hyc]⟩)
    | cons n0 rest =>
      focus
        refine xc_seq ?_
        refine xc_region ?_
        refine xo_ef rfl (ef_next [] _ hrg rfl rfl (.inr (List.mem_cons_of_mem _ (List.mem_cons_of_mem _ (List.mem_cons_of_mem _ List.mem_cons_self)))) (fun h => by cases h) (fun n v it' hn hv hrg' => ?_))
        refine xo_rd (rd_extract rfl rfl) rfl ?_
        refine xo_nil ?_
        refine xq_seq ?_
        refine xc_seq ?_
        refine xc_condt rfl ?_
        refine xc_skip ?_
        refine xq_seq ?_
        refine xc_block ?_
      have hidw : ws.map (fun w => w.a.id) = (A ++ B).map fun w => w.a.id := by
        have h1 : ws.map (fun w => w.a.id) = (ws.map Wm.a).map Wa.id := by rw [List.map_map]; rfl
        have h2 : (A ++ B).map (fun w => w.a.id) = a0.map Wa.id := by rw [← ha0, List.map_map]; rfl
        rw [h1, h2, hwa, List.map_map]
        refine List.map_congr_left fun w _ => ?_
        show (if w.id ∈ n0 :: rest then w else cutW id w).id = w.id
        split <;> rfl
      have hnm : n ∈ ws.map fun w => w.a.id := by
        obtain ⟨w, hwf, _⟩ := Option.map_eq_some_iff.1 hv
        exact List.mem_map.2 ⟨w, List.mem_of_find?_eq_some hwf, by simpa using List.find?_some hwf⟩
      obtain ⟨A2, w, B2, rfl, hwn, hA2, hB2⟩ := wm_split hnm (hidw ▸ hndAB)
      have hvv : watV (A2 ++ w :: B2) n = some w.v := by unfold watV; rw [watF_split (w := w) (fun u hu => hwn ▸ hA2 u hu), if_pos hwn.symm]; rfl
      have hwO := hwo w (List.mem_append_right _ List.mem_cons_self)
      have hwl := hwO.sl
      rw [wlb_split]
      focus
        refine xc_seq ?_
        refine xc_region ?_
        refine xo_rd (rd_entry hrg' hvv rfl (.inr List.mem_cons_self) (.inr (List.mem_cons_of_mem _ (List.mem_cons_of_mem _ (List.mem_cons_of_mem _ List.mem_cons_self))))) rfl ?_
        refine xo_rd (rd_extract rfl rfl) rfl ?_
        refine xo_rd (rd_extract rfl rfl) rfl ?_
        refine xo_ef rfl (ef_alloc fun r9 => ?_)
        refine xo_rd (rd_assign rfl) rfl ?_
        refine xo_ef rfl (ef_storeB [] _ rfl rfl (by first | rfl | assumption) rfl rfl rfl ?_)
        refine xo_nil ?_
        refine xq_seq ?_
      have hdel := (xf_deli51 (W := W) (R := (r9, Obj.cells w.enc.toArray 64 (0, 0)) :: (r39, it') :: (r4, Obj.cells #[.int .i64 id] 3 (0, 0)) :: (r, Obj.cells (rcl x.ro.c x.fr x.mb).toArray 81 (0, 0)) :: (x.mb, mo) :: ((wlb A2 ++ wlb B2) ++ (y.blks ++ z.blks x.fr L))) w.p w.a.cs.length w.c w.a.cs w.l hwl rfl (fun x => decide (x = id)) (by have := hwO.few; omega) r4 (fun l' x _ => xf_is51 x r4 id (Cl.own (List.mem_append_right _ (List.mem_cons_of_mem _ (List.mem_cons_of_mem _ List.mem_cons_self))) rfl))).perm (perm_lv w.l (wlb A2) (wlb B2) (y.blks ++ z.blks x.fr L))
      focus
        refine xc_seq ?_
        refine xc_region ?_
        refine xo_rd (rd_fieldAddr rfl) rfl ?_
        refine xo_rd (rd_load1 rfl (Cl.o0 rfl)) rfl ?_
        refine xo_rd (rd_makeFunc rfl rfl) rfl ?_
        refine xo_ef rfl (ef_call rfl (XF.mono (hdel) ?_))
        rintro v L' ⟨l2, rfl, hl2, rfl⟩
        refine xo_perm (perm_lv l2 (wlb A2) (wlb B2) (y.blks ++ z.blks x.fr L)).symm ?_
        refine xo_rd (rd_fieldAddr rfl) rfl ?_
        refine xo_ef rfl (ef_store1 [] _ rfl rfl (by first | rfl | assumption) rfl rfl rfl ?_)
        refine xo_nil ?_
        refine xq_seq ?_
        refine xc_drawM [0, 1, 2, 4, 0, 0, 63] [0, 1, 2, 4, 0, 0, 63] ([(r9, Obj.cells (w.enc.set (0 + 1) (.slice w.p (w.a.cs.filter fun x => !decide (x = id)).length w.c)).toArray 64 (0, 0)), (r, Obj.cells (rcl x.ro.c x.fr x.mb).toArray 81 (0, 0))]) (by kernel_rfl) (by kernel_rfl) (by kernel_rfl) ?_
        refine xm_take 0 (m' := 1) rfl (by kernel_rfl) Sb.a (rd_move rfl) rfl (by kernel_rfl) ?_
        refine xm_take 1 (m' := 3) rfl (by kernel_rfl) Sb.a (rd_nilCheck rfl) rfl (by kernel_rfl) ?_
        refine xm_take 2 (m' := 7) rfl (by kernel_rfl) Sb.a (rd_fieldAddr rfl) rfl (by kernel_rfl) ?_
        refine xm_take 3 (m' := 15) rfl (by kernel_rfl) Sb.a (rd_load1 rfl (Cl.o1 rfl)) rfl (by kernel_rfl) ?_
        refine xm_take 4 (m' := 31) rfl (by kernel_rfl) Sb.a (rd_move rfl) rfl (by kernel_rfl) ?_
        refine xm_take 5 (m' := 63) rfl (by kernel_rfl) Sb.a (rd_loadB rfl Kn.o0 (by rfl)) rfl (by kernel_rfl) ?_
        refine xm_one 6 (m' := 127) rfl (by kernel_rfl) rfl (by kernel_rfl) (ef_mapUpdateR [_, _, _, _] _ (v := .agg (wEnc w.a.ct w.p (w.a.cs.filter fun x => !decide (x = id)).length w.c).toArray) hrg' (by rw [hvv]; rfl) rfl rfl rfl rfl fun mo2 hrg2 => ?_)
        refine ⟨Sb.a, ?_⟩
        refine xm_done (by kernel_rfl) ?_
        refine xq_block ?_
      have hst : ((A2 ++ (Wm.mk (cutW id w.a) w.p w.c l2) :: B2).map Wm.a = a0.map (fun u => if u.id ∈ (n0 :: rest).erase n then u else cutW id u)) ∧ (∀ u, u ∈ A2 ++ (Wm.mk (cutW id w.a) w.p w.c l2) :: B2 → u.Ok) ∧ ∃ cur, MpR .i64 x.mb mo2 it' (watV (A2 ++ (Wm.mk (cutW id w.a) w.p w.c l2) :: B2)) (A2 ++ (Wm.mk (cutW id w.a) w.p w.c l2) :: B2).length ((n0 :: rest).erase n) cur := by
        refine ⟨?_, fun u hu => ?_, some n, ?_⟩
        · have h1 : (A2 ++ (Wm.mk (cutW id w.a) w.p w.c l2) :: B2).map Wm.a = ((A2 ++ w :: B2).map Wm.a).map (fun u => if u.id = n then cutW id u else u) := by
            have hc : ∀ l : List Wm, (∀ v, v ∈ l → v.a.id ≠ n) → l.map Wm.a = (l.map Wm.a).map (fun u => if u.id = n then cutW id u else u) := fun l hl => by
              rw [List.map_map]
              refine List.map_congr_left fun v hv => ?_
              show v.a = if v.a.id = n then cutW id v.a else v.a
              rw [if_neg (hl v hv)]
            rw [List.map_append, List.map_append, List.map_cons, List.map_cons, List.map_append, List.map_cons, ← hc A2 hA2, ← hc B2 hB2, if_pos hwn]
          rw [h1, hwa, List.map_map]
          refine List.map_congr_left fun u _ => ?_
          show (if (if u.id ∈ n0 :: rest then u else cutW id u).id = n then cutW id (if u.id ∈ n0 :: rest then u else cutW id u) else (if u.id ∈ n0 :: rest then u else cutW id u)) = _
          have hid : (if u.id ∈ n0 :: rest then u else cutW id u).id = u.id := by split <;> rfl
          rw [hid]
          by_cases hun : u.id = n
          · have hl1 : u.id ∈ n0 :: rest := by rw [hun]; exact hn
            have hl2' : ¬ u.id ∈ (n0 :: rest).erase n := by rw [hun]; exact fun h => ((hrg.nodup).mem_erase_iff.1 h).1 rfl
            rw [if_pos hun, if_pos hl1, if_neg hl2']
          · rw [if_neg hun]
            by_cases hm : u.id ∈ n0 :: rest
            · rw [if_pos hm, if_pos ((List.mem_erase_of_ne hun).2 hm)]
            · rw [if_neg hm, if_neg (fun h => hm (List.mem_of_mem_erase h))]
        · rcases List.mem_append.1 hu with h | h
          · exact hwo u (List.mem_append_left _ h)
          · rcases List.mem_cons.1 h with h | h
            · rw [h]; exact ⟨hl2, Nat.le_trans (List.length_filter_le ..) hwO.few⟩
            · exact hwo u (List.mem_append_right _ (List.mem_cons_of_mem _ h))
        · refine hrg2.cong (fun z => ?_) (by rw [List.length_append, List.length_append, List.length_cons, List.length_cons])
          rw [watV_swap (w := w) (u := Wm.mk (cutW id w.a) w.p w.c l2) rfl (fun v hv => hwn ▸ hA2 v hv) z, hwn]; rfl
      all_goals exact xq_sub (List.sublist_cons_self _ _) (xq_roundI (⟨A2 ++ (Wm.mk (cutW id w.a) w.p w.c l2) :: B2, mo2, it', (n0 :: rest).erase n⟩ : LvS) hst (by dsimp only; rw [List.length_erase_of_mem hn]; exact Nat.sub_lt (Nat.succ_pos _) Nat.one_pos) (by dsimp only; rw [wlb_split]; rfl) (by repeat (first | exact keep_nil | refine keep_cons rfl ?_)))
  · have hll : leaveL x.ro.ms id = x.ro.ms := by
      unfold leaveR at hj
      unfold leaveL
      rw [List.eraseP_of_forall_not]
      intro m hm he
      apply hj
      rw [if_pos]
      unfold getId
      rw [List.find?_isSome]
      exact ⟨m, hm, he⟩
    rw [hll] at hlv
    generalize hje : leaveR x.ro.ms id = je at *
    focus
      refine xc_seq ?_
      refine xc_region ?_
      refine xo_ef rfl (ef_box rfl fun r4 => ?_)
      refine xo_rd (rd_assign rfl) rfl ?_
      refine xo_nil ?_
      refine xq_seq ?_
      refine xc_seq ?_
      refine xc_seq ?_
      refine xc_region ?_
      refine xo_rd (rd_move rfl) rfl ?_
      refine xo_rd (rd_eqnil rfl) rfl ?_
      refine xo_nil ?_
      refine xq_seq ?_
      refine xc_condf rfl ?_
      refine xc_skip ?_
      refine xq_seq ?_
      refine xc_seq ?_
      refine xc_seq ?_
      refine xc_drawM [0, 1, 2, 4, 8, 0, 48, 127] [0, 1, 2, 4, 8, 0, 48, 127] ([(r4, Obj.cells #[.int .i64 id] 3 (0, 0)), (r, Obj.cells (rcl x.ro.c x.fr x.mb).toArray 81 (0, 0))]) (by kernel_rfl) (by kernel_rfl) (by kernel_rfl) ?_
      refine xm_take 0 (m' := 1) rfl (by kernel_rfl) Sb.a (rd_move rfl) rfl (by kernel_rfl) ?_
      refine xm_take 1 (m' := 3) rfl (by kernel_rfl) Sb.a (rd_nilCheck rfl) rfl (by kernel_rfl) ?_
      refine xm_take 2 (m' := 7) rfl (by kernel_rfl) Sb.a (rd_fieldAddr rfl) rfl (by kernel_rfl) ?_
      refine xm_take 3 (m' := 15) rfl (by kernel_rfl) Sb.a (rd_fieldAddr rfl) rfl (by kernel_rfl) ?_
      refine xm_take 4 (m' := 31) rfl (by kernel_rfl) Sb.a (rd_load1 rfl (Cl.own (List.mem_cons_of_mem _ List.mem_cons_self) rfl)) rfl (by kernel_rfl) ?_
      refine xm_take 5 (m' := 63) rfl (by kernel_rfl) Sb.a (rd_load1 rfl (Cl.o0 rfl)) rfl (by kernel_rfl) ?_
      refine xm_one 6 (m' := 127) rfl (by kernel_rfl) rfl (by kernel_rfl) (ef_call rfl (XF.mono (hlv _ _ _ _) ?_))
      rintro v L' ⟨rfl, y, ⟨hy, hyc, hym, hyms⟩, rfl⟩
      refine ⟨Sb.a, ?_⟩
      refine xm_take 7 (m' := 255) rfl (by kernel_rfl) Sb.a (rd_assign rfl) rfl (by kernel_rfl) ?_
      refine xm_done (by kernel_rfl) ?_
      refine xq_seq ?_
      refine xc_seq ?_
      refine xc_region ?_
      refine xo_rd (rd_move rfl) rfl ?_
      refine xo_rd (rd_neq rfl rfl) rfl ?_
      refine xo_nil ?_
      refine xq_seq ?_
      refine xc_ndec rfl (fun h1 => ?_) (fun h1 => (by exfalso; omega))
      refine xc_seq ?_
      refine xc_region ?_
      refine xo_rd (rd_move rfl) rfl ?_
      refine xo_rd (rd_assign rfl) rfl ?_
      refine xo_nil ?_
      refine xq_seq ?_
      refine xc_ret ?_
      refine xq_then_ret ?_
    have hyo : (Rm.mk y x.fr x.fm x.mb x.mo x.ws).Ok := ⟨hy, hx.fm, hx.mp, hx.wo, by dsimp only; rw [hyms]; exact hx.ids, by dsimp only; rw [hyms]; exact hx.rg⟩
    all_goals exact xq_sub (List.sublist_cons_self _ _) (xq_ret1 (.inl rfl) Tryz.results20 rfl ⟨by rw [hE], _, hyo, by rw [lvA, hE, if_neg hj]; unfold Rm.ra Rm.was; dsimp only; rw [hym, hyms], by dsimp only; rw [hyc]⟩)
end Go.Proofs.YtmdeajdaeihniaaGreat.X
/-
  Chapter 25: the chapter's examples: walks of my own.
-/
namespace Go.Proofs.YtmdeajdaeihniaaGreat.X
open Go Go.RowKit
set_option linter.unusedVariables false
set_option linter.unusedSimpArgs false
def mk1 (i : Nat) : Mb := ⟨(i : Int), 10 * (i : Int), 10 * (i : Int) + 1, decide ((i : Int) = 3)⟩
/-- The room of the examples, with so many members. -/
def stR : Nat → Ra
  | 0 => ⟨5, [], newFa 2 9, []⟩
  | k + 1 => jnA (stR k) (mk1 (k + 1))
theorem stR_ok : ∀ k : Nat, k < 3 → jnE (stR k) (mk1 (k + 1)) = 0 := by decide
theorem xf_three {W : World} {L : List Blk} : XF Tryz.prog W 15 #[] L (fun v L' => ∃ r, v = .tuple #[.pointer (some ⟨r, 0, none⟩), .bool true] ∧ ∃ y : Rm, y.Ok ∧ y.ra = stR 3 ∧ L' = y.blks r L) := by
  refine xf_enter (args := []) Tryz.func15 rfl Tryz.ntmps15 rfl ?_
  focus
    refine xc_seq ?_
    refine xc_region ?_
    refine xo_rd (rd_assign rfl) rfl ?_
    refine xo_rd (rd_assign rfl) rfl ?_
    refine xo_nil ?_
    refine xq_seq ?_
    refine xc_seq ?_
    refine xc_region ?_
    refine xo_rd (rd_cast (v' := .agg (cfgE 5 2 9).toArray) (rd_build (T := 24) rfl rfl rfl) (by kernel_rfl)) rfl ?_
    refine xo_ef rfl (ef_call rfl (XF.mono (xf_RNew 5 2 9 (by decide) (by decide) (by decide)) ?_))
    rintro v L' ⟨r, rfl, y, hy, hya, rfl⟩
    refine xo_rd (rd_move rfl) rfl ?_
    refine xo_rd (rd_extract rfl rfl) rfl ?_
    refine xo_rd (rd_extract rfl rfl) rfl ?_
    refine xo_rd (rd_assign rfl) rfl ?_
    refine xo_rd (rd_assign rfl) rfl ?_
    refine xo_nil ?_
    refine xq_seq ?_
    refine xc_seq ?_
    refine xc_region ?_
    refine xo_rd (rd_move rfl) rfl ?_
    refine xo_rd (rd_eql rfl rfl) rfl ?_
    refine xo_rd (rd_assign rfl) rfl ?_
    refine xo_nil ?_
    refine xq_seq ?_
    refine xc_seq ?_
    refine xc_seq ?_
    refine xc_region ?_
    refine xo_rd (rd_assign rfl) rfl ?_
    refine xo_nil ?_
    refine xq_seq ?_
    refine xc_block ?_
  refine xc_loopI (ι := Nat × Rm) (fun s => s.1 ≤ 3 ∧ s.2.Ok ∧ s.2.ra = stR s.1) (fun s => 3 - s.1) (fun s => s.2.blks r L) (fun s => [(2, .pointer (some ⟨r, 0, none⟩)), (4, .bool true), (5, .int .i64 ((s.1 + 1 : Nat) : Int))]) (0, y) ⟨Nat.zero_le _, hy, hya⟩ rfl (by repeat (first | exact keep_nil | refine keep_cons rfl ?_)) ?_
  clear hy hya
  rintro ⟨k, x⟩ ⟨hk, hx, hra⟩
  dsimp only at hk hx hra ⊢
  by_cases hk3 : k < 3
  · have hj := xf_RJoin (W := W) (L := L) r x hx (mk1 (k + 1))
    rw [hra, stR_ok k hk3] at hj
    focus
      refine xc_seq ?_
      refine xc_seq ?_
      refine xc_region ?_
      refine xo_rd (rd_move rfl) rfl ?_
      refine xo_rd (rd_lss rfl rfl) rfl ?_
      refine xo_rd (rd_move rfl) rfl ?_
      refine xo_dec 15 rfl (fun h1 => ?_) (fun h1 => (by exfalso; omega))
      refine xo_grd rfl rfl (rd_move rfl) rfl ?_
      refine xo_rd (rd_pickt rfl rfl) rfl ?_
      refine xo_nil ?_
      refine xq_seq ?_
      refine xc_condt rfl ?_
      refine xc_skip ?_
      refine xq_seq ?_
      refine xc_seq ?_
      refine xc_block ?_
      refine xc_region ?_
      refine xo_rd (rd_move rfl) rfl ?_
      refine xo_rd (rd_move rfl) rfl ?_
      refine xo_rd (rd_move rfl) rfl ?_
      refine xo_rd (rd_muln rfl rfl (by omega) (by omega)) rfl ?_
      refine xo_rd (rd_convn rfl (by omega) (by omega)) rfl ?_
      refine xo_rd (rd_move rfl) rfl ?_
      refine xo_rd (rd_muln rfl rfl (by omega) (by omega)) rfl ?_
      refine xo_rd (rd_addn rfl rfl (by omega) (by omega)) rfl ?_
      refine xo_rd (rd_convn rfl (by omega) (by omega)) rfl ?_
      refine xo_rd (rd_move rfl) rfl ?_
      refine xo_rd (rd_eql rfl rfl) rfl ?_
      refine xo_rd (rd_cast (v' := .agg (mk1 (k + 1)).enc.toArray) (rd_build (T := 49) rfl rfl rfl) (by kernel_rfl)) rfl ?_
      refine xo_ef rfl (ef_call rfl (XF.mono (hj) ?_))
      rintro v L' ⟨rfl, z, hz, hza, rfl⟩
      refine xo_rd (rd_eql rfl rfl) rfl ?_
      refine xo_rd (rd_assign rfl) rfl ?_
      refine xo_nil ?_
      refine xq_block ?_
      refine xq_seq ?_
      refine xc_region ?_
      refine xo_rd (rd_move rfl) rfl ?_
      refine xo_rd (rd_addn rfl rfl (by omega) (by omega)) rfl ?_
      refine xo_rd (rd_assign rfl) rfl ?_
      refine xo_nil ?_
    exact xq_roundI ((k + 1, z) : Nat × Rm) ⟨by dsimp only; omega, hz, hza⟩ (by dsimp only; omega) rfl (by repeat (first | exact keep_nil | refine keep_cons rfl ?_))
  · have hk4 : k = 3 := by omega
    subst hk4
    focus
      refine xc_seq ?_
      refine xc_seq ?_
      refine xc_region ?_
      refine xo_rd (rd_move rfl) rfl ?_
      refine xo_rd (rd_lss rfl rfl) rfl ?_
      refine xo_rd (rd_move rfl) rfl ?_
      refine xo_gskip rfl rfl rfl rfl ?_
      refine xo_rd (rd_pickf rfl rfl) rfl ?_
      refine xo_nil ?_
      refine xq_seq ?_
      refine xc_condf rfl ?_
      refine xc_exit ?_
      refine xq_then_exit ?_
      refine xq_then_exit ?_
      refine xq_block_hit ?_
      refine xq_seq ?_
      refine xc_seq ?_
      refine xc_region ?_
      refine xo_rd (rd_move rfl) rfl ?_
      refine xo_rd (rd_move rfl) rfl ?_
      refine xo_rd (rd_assign rfl) rfl ?_
      refine xo_rd (rd_assign rfl) rfl ?_
      refine xo_nil ?_
      refine xq_seq ?_
      refine xc_ret ?_
    exact xq_ret2 (.inl rfl) Tryz.results15 rfl rfl ⟨r, rfl, x, hx, hra, rfl⟩
theorem xf_sameT {W : World} {L : List Blk} (p q : Option Addr) (m m' c c' : Nat) (xs ys : List Int) (hx : xs.length = m) (hy : ys.length = m') (hr : Rs W L p (ints .i64 xs)) (hs : Rs W L q (ints .i64 ys)) (hm : m ≤ 1000000000) (h : xs = ys) : XF Tryz.prog W 22 #[.slice p m c, .slice q m' c'] L (fun v L' => v = .bool true ∧ L' = L) := by
  have := xf_sameI p q m m' c c' xs ys hx hy hr hs hm
  rwa [decide_eq_true h] at this
theorem xf_SubK {W : World} {L : List Blk} (r : Nat) (x : Rm) (hx : x.Ok) (id : Int) (ct : Bool) (p : Option Addr) (n c : Nat) (cs : List Int) (hn : cs.length = n) (hrs : Rs W (x.blks r L) p (ints .i64 cs)) (hm : n ≤ 1000) (hnc : n ≤ c) (e : Int) (f : Ra) (h1 : sbE x.ra id cs = e) (h2 : sbA x.ra id ct cs = f) : XF Tryz.prog W 16 #[.pointer (some ⟨r, 0, none⟩), .int .i64 id, .agg (wEnc ct p n c).toArray] (x.blks r L) (fun v L' => v = .int .i64 e ∧ ∃ y : Rm, y.Ok ∧ y.ra = f ∧ L' = y.blks r L) := by
  subst h1 h2; exact xf_RSubscribe r x hx id ct p n c cs hn hrs hm hnc
theorem xf_AudK {W : World} {L : List Blk} (r : Nat) (x : Rm) (hx : x.Ok) (l : List Int) (hw : 0 ≤ x.ra.fl.who ∧ x.ra.fl.who ≤ 4294967295) (h : (x.ra.ms.map Mb.id).filter (audP x.ra.ws x.ra.fl.held x.ra.fl.who) = l) : XF Tryz.prog W 18 #[.pointer (some ⟨r, 0, none⟩)] (x.blks r L) (fun v L' => ∃ p k lb, v = .slice p l.length k ∧ SlQ 1 3 (.slice p l.length k) l.length (ints .i64 l) lb ∧ L' = lb ++ x.blks r L) := by
  subst h; exact xf_RAudience r x hx hw
theorem xf_VwK {W : World} {L : List Blk} (r : Nat) (x : Rm) (hx : x.Ok) (y : Int) (l : List Int) (h : (x.ra.ms.map Mb.id).filter (viewP x.ra.ws y) = l) : XF Tryz.prog W 19 #[.pointer (some ⟨r, 0, none⟩), .int .i64 y] (x.blks r L) (fun v L' => ∃ p k lb, v = .slice p l.length k ∧ SlQ 1 3 (.slice p l.length k) l.length (ints .i64 l) lb ∧ L' = lb ++ x.blks r L) := by
  subst h; exact xf_RViewers r x hx y
theorem xf_WtK {W : World} {L : List Blk} (r : Nat) (x : Rm) (hx : x.Ok) (id : Int) (w : Wa) (b : Bool) (h1 : wgA x.ra.ws id = w) (h2 : (wfA x.ra.ws id).isSome = b) : XF Tryz.prog W 21 #[.pointer (some ⟨r, 0, none⟩), .int .i64 id] (x.blks r L) (fun v L' => ∃ q k l, v = .tuple #[.agg (wEnc w.ct q w.cs.length k).toArray, .bool b] ∧ SlO 1 3 (.slice q w.cs.length k) w.cs.length (ints .i64 w.cs) l ∧ L' = l ++ x.blks r L) := by
  subst h1 h2; exact xf_RWatch r x hx id
theorem xf_LvK {W : World} {L : List Blk} (r : Nat) (x : Rm) (hx : x.Ok) (id now : Int) (e : Int) (f : Ra) (h1 : lvE x.ra id = e) (h2 : lvA x.ra id now = f) (hg : x.ra.fl.gs.length ≤ 1000000) : XF Tryz.prog W 20 #[.pointer (some ⟨r, 0, none⟩), .int .i64 id, .int .u64 now] (x.blks r L) (fun v L' => v = .int .i64 e ∧ ∃ y : Rm, y.Ok ∧ y.ra = f ∧ L' = y.blks r L) := by
  subst h1 h2; exact xf_RLeave r x hx id now hg
def rqE (a : Ra) (id : Int) : Int := if farI id = true then 130 else reqE a.fl id
def rqA (a : Ra) (id now : Int) : Ra := if farI id = true then a else { a with fl := reqF a.fl id now }
theorem xf_RqK {W : World} {L : List Blk} (r : Nat) (x : Rm) (hx : x.Ok) (id now : Int) (e : Int) (f : Ra) (h1 : rqE x.ra id = e) (h2 : rqA x.ra id now = f) (hg : x.ra.fl.gs.length ≤ 1000000) : XF Tryz.prog W 17 #[.pointer (some ⟨r, 0, none⟩), .int .i64 id, .int .u64 now] (x.blks r L) (fun v L' => v = .int .i64 e ∧ ∃ y : Rm, y.Ok ∧ y.ra = f ∧ L' = y.blks r L) := by
  subst h1 h2
  refine (xf_RRequest r x hx id now hg).mono fun v L' ⟨hv, y, hy, hya, hL⟩ => ⟨hv, _, hx.fmk hy, ?_, hL⟩
  unfold Rm.ra rqA Rm.was
  dsimp only
  rw [hya]
  split <;> rfl
def rB0 : Ra := stR 3
def rB1 : Ra := sbA rB0 1 true [3, 2]
def rB2 : Ra := sbA rB1 2 true []
def rB3 : Ra := rqA rB2 2 0
def rB4 : Ra := lvA rB3 2 1
set_option maxHeartbeats 1600000 in
theorem xf_works {W : World} {L : List Blk} : XF Tryz.prog W 6 #[] L (fun v L' => v = .bool true ∧ L' = L) := by
  refine xf_enter (args := []) Tryz.func6 rfl Tryz.ntmps6 rfl ?_
  focus
    refine xc_seq ?_
    refine xc_region ?_
    refine xo_rd (rd_assign rfl) rfl ?_
    refine xo_nil ?_
    refine xq_seq ?_
    refine xc_seq ?_
    refine xc_region ?_
    refine xo_ef rfl (ef_call rfl (XF.mono (xf_three) ?_))
    rintro v L' ⟨r, rfl, x0, hx0, ha0, rfl⟩
    refine xo_rd (rd_move rfl) rfl ?_
    refine xo_rd (rd_extract rfl rfl) rfl ?_
    refine xo_rd (rd_extract rfl rfl) rfl ?_
    refine xo_rd (rd_assign rfl) rfl ?_
    refine xo_rd (rd_assign rfl) rfl ?_
    refine xo_nil ?_
    refine xq_seq ?_
  focus
    refine xc_seq ?_
    refine xc_seq ?_
    refine xc_region ?_
    refine xo_rd (rd_move rfl) rfl ?_
    refine xo_rd (rd_not rfl) rfl ?_
    refine xo_rd (rd_move rfl) rfl ?_
    refine xo_grd rfl rfl (rd_move rfl) rfl ?_
    refine xo_gef rfl rfl rfl (ef_buildL (T := 50) (len := 2) (s := 1) (cells := (ints .i64 [3, 2]).toArray) rfl (by decide) (by decide) (by kernel_rfl) fun r17 => ?_)
    refine xo_grd rfl rfl (rd_cast (v' := .agg (wEnc true (some ⟨r17, 0, none⟩) 2 2).toArray) (rd_build (T := 64) rfl rfl rfl) (by rfl)) rfl ?_
    refine xo_gef rfl rfl rfl (ef_call rfl (XF.mono ((xf_SubK (L := [_] ++ L) r x0 hx0 1 true _ 2 2 [3, 2] rfl (rs_one ((Rm.sub r x0 _).subset List.mem_cons_self)) (by decide) (by decide) 0 rB1 (by rw [ha0]; rfl) (by rw [ha0]; rfl)).perm (x0.front r [_] L)) ?_))
    rintro v L' ⟨rfl, x1, hx1, ha1, rfl⟩
    refine xo_grd rfl rfl (rd_neq rfl rfl) rfl ?_
    refine xo_rd (rd_pickf rfl rfl) rfl ?_
    refine xo_rd (rd_move rfl) rfl ?_
    refine xo_grd rfl rfl (rd_move rfl) rfl ?_
    refine xo_grd rfl rfl (rd_cast (v' := .agg (wEnc true none 0 0).toArray) (rd_build (T := 64) rfl rfl rfl) (by rfl)) rfl ?_
    refine xo_gef rfl rfl rfl (ef_call rfl (XF.mono (xf_SubK r x1 hx1 2 true none 0 0 [] rfl Rs.nil (by decide) (by decide) 0 rB2 (by rw [ha1]; rfl) (by rw [ha1]; rfl)) ?_))
    rintro v L' ⟨rfl, x2, hx2, ha2, rfl⟩
    refine xo_grd rfl rfl (rd_neq rfl rfl) rfl ?_
    refine xo_rd (rd_pickf rfl rfl) rfl ?_
    refine xo_rd (rd_move rfl) rfl ?_
    refine xo_grd rfl rfl (rd_move rfl) rfl ?_
    refine xo_gef rfl rfl rfl (ef_call rfl (XF.mono (xf_RqK r x2 hx2 2 0 0 rB3 (by rw [ha2]; rfl) (by rw [ha2]; rfl) (by rw [ha2]; decide)) ?_))
    rintro v L' ⟨rfl, x3, hx3, ha3, rfl⟩
    refine xo_grd rfl rfl (rd_neq rfl rfl) rfl ?_
    refine xo_rd (rd_pickf rfl rfl) rfl ?_
    refine xo_nil ?_
    refine xq_seq ?_
    refine xc_condf rfl ?_
    refine xc_skip ?_
    refine xq_seq ?_
  clear ha0 ha1 ha2
  generalize hG : [(r17, Obj.cells (ints .i64 [3, 2]).toArray 3 (0, 0))] ++ L = G at *
  have hLs : L.Sublist G := by rw [← hG]; exact List.sublist_append_right _ _
  focus
    refine xc_seq ?_
    refine xc_region ?_
    refine xo_rd (rd_move rfl) rfl ?_
    refine xo_ef rfl (ef_call rfl (XF.mono (xf_AudK r x3 hx3 [1] (by rw [ha3]; decide) (by rw [ha3]; rfl)) ?_))
    rintro v L' ⟨p, k, la, rfl, hO, rfl⟩
    refine xo_rd (rd_move rfl) rfl ?_
    refine xo_ef rfl (ef_call rfl (XF.mono ((xf_VwK (L := la ++ G) r x3 hx3 2 [1] (by rw [ha3]; rfl)).perm (x3.front r la G)) ?_))
    rintro v L' ⟨p2, k2, la2, rfl, hO2, rfl⟩
    refine xo_rd (rd_assign rfl) rfl ?_
    refine xo_rd (rd_assign rfl) rfl ?_
    refine xo_nil ?_
    refine xq_seq ?_
  focus
    refine xc_seq ?_
    refine xc_region ?_
    refine xo_rd (rd_move rfl) rfl ?_
    refine xo_ef rfl (ef_buildL (T := 50) (len := 1) (s := 1) (cells := (ints .i64 [1]).toArray) rfl (by decide) (by decide) (by kernel_rfl) fun r38 => ?_)
    refine xo_rd (rd_cast (v' := .agg (wEnc false (some ⟨r38, 0, none⟩) 1 1).toArray) (rd_build (T := 64) rfl rfl rfl) (by rfl)) rfl ?_
    refine xo_ef rfl (ef_call rfl (XF.mono ((xf_SubK (L := _ :: la2 ++ (la ++ G)) r x3 hx3 1 false _ 1 1 [1] rfl (rs_one ((Rm.sub r x3 _).subset List.mem_cons_self)) (by decide) (by decide) 2 rB3 (by rw [ha3]; rfl) (by rw [ha3]; rfl)).perm (x3.front r (_ :: la2) (la ++ G))) ?_))
    rintro v L' ⟨rfl, x4, hx4, ha4, rfl⟩
    refine xo_rd (rd_assign rfl) rfl ?_
    refine xo_nil ?_
    refine xq_seq ?_
  focus
    refine xc_seq ?_
    refine xc_region ?_
    refine xo_rd (rd_move rfl) rfl ?_
    refine xo_ef rfl (ef_call rfl (XF.mono (xf_LvK r x4 hx4 2 1 0 rB4 (by rw [ha4]; rfl) (by rw [ha4]; rfl) (by rw [ha4]; decide)) ?_))
    rintro v L' ⟨rfl, x5, hx5, ha5, rfl⟩
    refine xo_rd (rd_assign rfl) rfl ?_
    refine xo_nil ?_
    refine xq_seq ?_
  focus
    refine xc_seq ?_
    refine xc_region ?_
    refine xo_rd (rd_move rfl) rfl ?_
    refine xo_ef rfl (ef_call rfl (XF.mono (xf_WtK r x5 hx5 1 ⟨1, true, [3]⟩ true (by rw [ha5]; rfl) (by rw [ha5]; rfl)) ?_))
    rintro v L' ⟨p6, k6, la6, rfl, hO6, rfl⟩
    refine xo_rd (rd_move rfl) rfl ?_
    refine xo_rd (rd_extract rfl rfl) rfl ?_
    refine xo_rd (rd_extract rfl rfl) rfl ?_
    refine xo_ef rfl (ef_alloc fun r7 => ?_)
    refine xo_ef rfl (ef_storeB [] _ rfl rfl (by first | rfl | assumption) rfl rfl rfl ?_)
    refine xo_rd (rd_assign rfl) rfl ?_
    refine xo_nil ?_
    refine xq_seq ?_
  generalize hGx : (r38, Obj.cells (ints .i64 [1]).toArray 3 (0, 0)) :: la2 ++ (la ++ G) = Gx at *
  have hGG : ∀ z, z ∈ G → z ∈ Gx := fun z hz => by rw [← hGx]; exact List.mem_cons_of_mem _ (List.mem_append_right _ (List.mem_append_right _ hz))
  have hGl : ∀ z, z ∈ la → z ∈ Gx := fun z hz => by rw [← hGx]; exact List.mem_cons_of_mem _ (List.mem_append_right _ (List.mem_append_left _ hz))
  have hGl2 : ∀ z, z ∈ la2 → z ∈ Gx := fun z hz => by rw [← hGx]; exact List.mem_cons_of_mem _ (List.mem_append_left _ hz)
  have hGs : G.Sublist Gx := by rw [← hGx]; exact ((List.sublist_append_right la G).trans (List.sublist_append_right la2 _)).trans (List.sublist_cons_self _ _)
  refine xc_perm (L' := x5.blks r ((r7, Obj.cells (wEnc true p6 1 k6).toArray 64 (0, 0)) :: la6 ++ Gx)) (x5.front r (_ :: la6) Gx) ?_
  generalize hH : (r7, Obj.cells (wEnc true p6 1 k6).toArray 64 (0, 0)) :: la6 ++ Gx = H at *
  have hHx : ∀ z, z ∈ Gx → z ∈ x5.blks r H := fun z hz => (Rm.sub r x5 H).subset (by rw [← hH]; exact List.mem_cons_of_mem _ (List.mem_append_right _ hz))
  have hH7 : (r7, Obj.cells (wEnc true p6 1 k6).toArray 64 (0, 0)) ∈ x5.blks r H := (Rm.sub r x5 H).subset (by rw [← hH]; exact List.mem_cons_self)
  have hH6 : ∀ z, z ∈ la6 → z ∈ x5.blks r H := fun z hz => (Rm.sub r x5 H).subset (by rw [← hH]; exact List.mem_cons_of_mem _ (List.mem_append_left _ hz))
  have hHs : Gx.Sublist H := by rw [← hH]; exact (List.sublist_append_right la6 Gx).trans (List.sublist_cons_self _ _)
  have r1 : ∀ L', (∀ z, z ∈ x5.blks r H → z ∈ L') → Rs W L' p (ints .i64 [1]) := fun L' h => hO.rs fun z hz => h z (hHx z (hGl z hz))
  have r2 : ∀ L', (∀ z, z ∈ x5.blks r H → z ∈ L') → Rs W L' p2 (ints .i64 [1]) := fun L' h => hO2.rs fun z hz => h z (hHx z (hGl2 z hz))
  have r6 : ∀ L', (∀ z, z ∈ x5.blks r H → z ∈ L') → Rs W L' p6 (ints .i64 [3]) := fun L' h => hO6.rs fun z hz => h z (hH6 z hz)
  focus
    refine xc_seq ?_
    refine xc_region ?_
    refine xo_rd (rd_move rfl) rfl ?_
    refine xo_ef rfl (ef_slice1 rfl rfl rfl fun r49 => ?_)
    refine xo_ef rfl (ef_call rfl (XF.mono (xf_sameT p _ 1 1 _ _ [1] [1] rfl rfl (r1 _ (by intro z hz; simp [hz])) rs_cons (by decide) rfl) ?_))
    rintro v L' ⟨rfl, rfl⟩
    refine xo_rd (rd_move rfl) rfl ?_
    refine xo_grd rfl rfl (rd_move rfl) rfl ?_
    refine xo_gef rfl rfl rfl (ef_slice1 rfl rfl rfl fun r53 => ?_)
    refine xo_gef rfl rfl rfl (ef_call rfl (XF.mono (xf_sameT p2 _ 1 1 _ _ [1] [1] rfl rfl (r2 _ (by intro z hz; simp [hz])) rs_cons (by decide) rfl) ?_))
    rintro v L' ⟨rfl, rfl⟩
    refine xo_rd (rd_pickt rfl rfl) rfl ?_
    refine xo_rd (rd_move rfl) rfl ?_
    refine xo_grd rfl rfl (rd_move rfl) rfl ?_
    refine xo_grd rfl rfl (rd_eql rfl rfl) rfl ?_
    refine xo_rd (rd_pickt rfl rfl) rfl ?_
    refine xo_rd (rd_move rfl) rfl ?_
    refine xo_grd rfl rfl (rd_move rfl) rfl ?_
    refine xo_grd rfl rfl (rd_eql rfl rfl) rfl ?_
    refine xo_rd (rd_pickt rfl rfl) rfl ?_
    refine xo_rd (rd_move rfl) rfl ?_
    refine xo_grd rfl rfl (rd_move rfl) rfl ?_
    refine xo_rd (rd_pickt rfl rfl) rfl ?_
    refine xo_rd (rd_move rfl) rfl ?_
    refine xo_grd rfl rfl (rd_fieldAddr rfl) rfl ?_
    refine xo_grd rfl rfl (rd_load1 rfl (Cl.own (List.mem_cons_of_mem _ (List.mem_cons_of_mem _ hH7)) rfl)) rfl ?_
    refine xo_rd (rd_pickt rfl rfl) rfl ?_
    refine xo_rd (rd_move rfl) rfl ?_
    refine xo_grd rfl rfl (rd_fieldAddr rfl) rfl ?_
    refine xo_grd rfl rfl (rd_load1 rfl (Cl.own (List.mem_cons_of_mem _ (List.mem_cons_of_mem _ hH7)) rfl)) rfl ?_
    refine xo_gef rfl rfl rfl (ef_slice1 rfl rfl rfl fun r74 => ?_)
    refine xo_gef rfl rfl rfl (ef_call rfl (XF.mono (xf_sameT p6 _ 1 1 _ _ [3] [3] rfl rfl (r6 _ (by intro z hz; simp [hz])) rs_cons (by decide) rfl) ?_))
    rintro v L' ⟨rfl, rfl⟩
    refine xo_rd (rd_pickt rfl rfl) rfl ?_
    refine xo_rd (rd_move rfl) rfl ?_
    refine xo_grd rfl rfl (rd_move rfl) rfl ?_
    refine xo_gef rfl rfl rfl (ef_call rfl (XF.mono ((xf_AudK (L := [_, _, _] ++ H) r x5 hx5 [1] (by rw [ha5]; decide) (by rw [ha5]; rfl)).perm (x5.front r [_, _, _] H)) ?_))
    rintro v L' ⟨p8, k8, la8, rfl, hO8, rfl⟩
    refine xo_gef rfl rfl rfl (ef_slice1 rfl rfl rfl fun r80 => ?_)
    refine xo_gef rfl rfl rfl (ef_call rfl (XF.mono (xf_sameT p8 _ 1 1 _ _ [1] [1] rfl rfl (hO8.rs (by intro z hz; simp [hz])) rs_cons (by decide) rfl) ?_))
    rintro v L' ⟨rfl, rfl⟩
    refine xo_rd (rd_pickt rfl rfl) rfl ?_
    refine xo_rd (rd_assign rfl) rfl ?_
    refine xo_nil ?_
    refine xq_seq ?_
    refine xc_ret ?_
  exact xq_sub ((((((hLs.trans hGs).trans hHs).trans (List.sublist_append_right [_, _, _] H)).trans (Rm.sub r x5 _)).trans (List.sublist_append_right la8 _)).trans (List.sublist_cons_self _ _)) (xq_ret1 (.inl rfl) Tryz.results6 rfl ⟨rfl, rfl⟩)
end Go.Proofs.YtmdeajdaeihniaaGreat.X
