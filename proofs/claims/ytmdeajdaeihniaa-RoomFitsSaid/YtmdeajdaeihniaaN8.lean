/-
  Texts of my own, put together: walks and laws for this seat. No condition.
-/
import Derived.Test.YtmdeajdaeihniaaN7
/-
  Chapter 25: who waits; what somebody watches; for whom something holds: walks of my own.
-/
namespace Go.Proofs.Ytmdeajdaeihniaa.X
open Go Go.RowKit
set_option linter.unusedVariables false
set_option linter.unusedSimpArgs false
/-- The state of a row of numbers that grows. -/
structure NrS where
  i : Nat
  p : Option Addr
  c : Nat
  l : List Blk
set_option maxHeartbeats 800000 in
theorem xf_RWaiting {W : World} {L : List Blk} (r : Nat) (x : Rm) (hx : x.Ok) (hu : ∀ w, w ∈ x.fm.a.wt → 0 ≤ w ∧ w ≤ 4294967295) : XF Try.prog W 9 #[.pointer (some ⟨r, 0, none⟩)] (x.blks r L) (fun v L' => ∃ p k l, v = .slice p x.fm.a.wt.length k ∧ SlQ 1 3 (.slice p x.fm.a.wt.length k) x.fm.a.wt.length (ints .i64 x.fm.a.wt) l ∧ L' = l ++ x.blks r L) := by
  have hwl : x.fm.a.wt.length ≤ 32 := by have := hx.fm.wb; have := hx.fm.bd; omega
  obtain ⟨wt, hwt⟩ : ∃ wt, x.fm.a.wt = wt := ⟨_, rfl⟩
  have hwait := xf_Waiting (W := W) (L := x.blks r L) x.fr x.fm (Rm.fr' (L := L) (r := r) hx fun _ h => h) (by omega)
  rw [hwt] at hwait hu hwl ⊢
  refine xf_enter (args := [_]) Try.func9 rfl Try.ntmps9 rfl ?_
  focus
    refine xc_seq ?_
    refine xc_region ?_
    refine xo_rd (rd_assign rfl) rfl ?_
    refine xo_nil ?_
    refine xq_seq ?_
    refine xc_seq ?_
    refine xc_seq ?_
    refine xc_region ?_
    refine xo_rd (rd_move rfl) rfl ?_
    refine xo_rd (rd_eqnil rfl) rfl ?_
    refine xo_nil ?_
    refine xq_seq ?_
    refine xc_condf rfl ?_
    refine xc_skip ?_
    refine xq_seq ?_
    refine xc_seq ?_
    refine xc_seq ?_
    refine xc_region ?_
    refine xo_rd (rd_move rfl) rfl ?_
    refine xo_rd (rd_nilCheck rfl) rfl ?_
    refine xo_rd (rd_fieldAddr rfl) rfl ?_
    refine xo_rd (rd_load1 rfl (Cl.o0 rfl)) rfl ?_
    refine xo_ef rfl (ef_call rfl (XF.mono (hwait) ?_))
    rintro v L' ⟨q, k, l, rfl, hO, rfl⟩
    refine xo_rd (rd_len rfl) rfl ?_
    refine xo_rd (rd_move rfl) rfl ?_
    refine xo_nil ?_
    refine xq_seq ?_
    refine xc_block ?_
  refine xc_loopI (ι := NrS) (fun s => s.i ≤ wt.length ∧ SlQ 1 3 (.slice s.p s.i s.c) s.i (ints .i64 (wt.take s.i)) s.l) (fun s => wt.length - s.i) (fun s => s.l ++ (l ++ x.blks r L)) (fun s => [(2, .slice s.p s.i s.c), (11, .slice q wt.length k), (12, .int .i64 wt.length), (13, .int .i64 s.i)]) ⟨0, none, 0, []⟩ ⟨Nat.zero_le _, SlQ.nil⟩ rfl (by repeat (first | exact keep_nil | refine keep_cons rfl ?_)) ?_
  rintro ⟨i, p2, c2, l2⟩ ⟨hi, hsl⟩
  dsimp only at hi hsl ⊢
  by_cases hin : i < wt.length
  · have hrs : Rs W (l2 ++ (l ++ x.blks r L)) q (ints .u32 wt) := hO.rs fun z hz => List.mem_append_right _ (List.mem_append_left _ hz)
    obtain ⟨b, o, hpb, hc⟩ := hrs.int (i := i) (by omega)
    subst hpb
    have hui := hu wt[i] (List.getElem_mem _)
    have htk : wt.take (i + 1) = wt.take i ++ [wt[i]] := by rw [List.take_add_one, List.getElem?_eq_getElem hin]; rfl
    generalize wt[i] = w at *
    focus
      refine xc_seq ?_
      refine xc_region ?_
      refine xo_rd (rd_lss rfl rfl) rfl ?_
      refine xo_nil ?_
      refine xq_seq ?_
      refine xc_seq ?_
      refine xc_dec rfl (fun hz1 => ?_) (fun hz1 => (by exfalso; omega))
      refine xc_skip ?_
      refine xq_seq ?_
      refine xc_seq ?_
      refine xc_block ?_
      refine xc_seq ?_
      refine xc_region ?_
      refine xo_rd (rd_indexAddr rfl rfl (by omega) (by omega)) rfl ?_
      refine xo_rd (rd_load1 rfl hc) rfl ?_
      refine xo_rd (rd_assign rfl) rfl ?_
      refine xo_nil ?_
      refine xq_seq ?_
      refine xc_region ?_
      refine xo_rd (rd_move rfl) rfl ?_
      refine xo_rd (rd_move rfl) rfl ?_
      refine xo_rd (rd_convn rfl (by omega) (by omega)) rfl ?_
      refine xo_ef rfl (ef_buildL (T := 35) (len := 1) (s := 1) (cells := (ints .i64 [w]).toArray) rfl (by decide) (by decide) (by kernel_rfl) fun r20 => ?_)
      refine xo_ef rfl (ef_appendQS [_] (l ++ x.blks r L) l2 (news := ints .i64 [w]) rfl rfl hsl rfl rs_cons rfl rfl (by decide) (by omega) (by omega) fun p3 c3 l3 hO3 hk3 => ?_)
      refine xo_rd (rd_assign rfl) rfl ?_
      refine xo_nil ?_
      refine xq_block ?_
      refine xq_seq ?_
      refine xc_region ?_
      refine xo_rd (rd_addn rfl rfl (by omega) (by omega)) rfl ?_
      refine xo_rd (rd_move rfl) rfl ?_
      refine xo_nil ?_
    refine xq_sub (List.sublist_cons_self _ _) (xq_roundI (⟨i + 1, p3, c3, l3⟩ : NrS) ⟨by dsimp only; omega, by dsimp only; rw [htk, ints_app]; exact hO3⟩ (by dsimp only; omega) rfl (by repeat (first | exact keep_nil | refine keep_cons rfl ?_)))
  · have hiw : i = wt.length := by omega
    subst hiw
    rw [List.take_length] at hsl
    focus
      refine xc_seq ?_
      refine xc_region ?_
      refine xo_rd (rd_lss rfl rfl) rfl ?_
      refine xo_nil ?_
      refine xq_seq ?_
      refine xc_seq ?_
      refine xc_dec rfl (fun h1 => (by exfalso; omega)) (fun h1 => ?_)
      refine xc_exit ?_
      refine xq_then_exit ?_
      refine xq_then_exit ?_
      refine xq_block_hit ?_
      refine xq_seq ?_
      refine xc_seq ?_
      refine xc_region ?_
      refine xo_rd (rd_move rfl) rfl ?_
      refine xo_rd (rd_assign rfl) rfl ?_
      refine xo_nil ?_
      refine xq_seq ?_
      refine xc_ret ?_
    exact xq_sub ((List.sublist_append_right l _).append_left l2) (xq_ret1 (.inl rfl) Try.results9 rfl ⟨p2, c2, l2, rfl, hsl, rfl⟩)
theorem xf_RWaitingN {W : World} {L : List Blk} : XF Try.prog W 9 #[.pointer none] L (fun v L' => v = .slice none 0 0 ∧ L' = L) := by
  refine xf_enter (args := [_]) Try.func9 rfl Try.ntmps9 rfl ?_
  focus
    refine xc_seq ?_
    refine xc_region ?_
    refine xo_rd (rd_assign rfl) rfl ?_
    refine xo_nil ?_
    refine xq_seq ?_
    refine xc_seq ?_
    refine xc_seq ?_
    refine xc_region ?_
    refine xo_rd (rd_move rfl) rfl ?_
    refine xo_rd (rd_eqnil rfl) rfl ?_
    refine xo_nil ?_
    refine xq_seq ?_
    refine xc_condt rfl ?_
    refine xc_seq ?_
    refine xc_region ?_
    refine xo_rd (rd_assign rfl) rfl ?_
    refine xo_nil ?_
    refine xq_seq ?_
    refine xc_ret ?_
    refine xq_then_ret ?_
  exact xq_ret1 (.inl rfl) Try.results9 rfl ⟨rfl, rfl⟩
def wEnc (ct : Bool) (p : Option Addr) (n c : Nat) : List Value := [.bool ct, .slice p n c]
theorem wEnc_len (ct : Bool) (p : Option Addr) (n c : Nat) : (wEnc ct p n c).length = 2 := rfl
set_option maxHeartbeats 800000 in
theorem xf_copied {W : World} {L : List Blk} (ct : Bool) (p : Option Addr) (n c : Nat) (cs : List Int) (hn : cs.length = n) (hr : Rs W L p (ints .i64 cs)) (hm : n ≤ 1000000) : XF Try.prog W 40 #[.agg (wEnc ct p n c).toArray] L (fun v L' => ∃ q k l, v = .agg (wEnc ct q n k).toArray ∧ SlO 1 3 (.slice q n k) n (ints .i64 cs) l ∧ L' = l ++ L) := by
  refine xf_enter (args := [_]) Try.func40 rfl Try.ntmps40 rfl ?_
  focus
    refine xc_seq ?_
    refine xc_region ?_
    refine xo_ef rfl (ef_box rfl fun r1 => ?_)
    refine xo_ef rfl (ef_alloc fun r2 => ?_)
    refine xo_nil ?_
    refine xq_seq ?_
  focus
    refine xc_seq ?_
    refine xc_drawM [0, 1, 0, 4, 8, 18, 63] [0, 1, 0, 4, 8, 18, 63] ((r1, Obj.cells (Value.agg (wEnc ct p n c).toArray).cells 49 (0, 0)) :: L) (by kernel_rfl) (by kernel_rfl) (by kernel_rfl) ?_
    refine xm_take 0 (m' := 1) rfl (by kernel_rfl) (by first | exact Sb.refl | exact Sb.nil | (repeat (first | exact Sb.nil | exact Sb.refl | exact Sb.app0 | apply Sb.keep | apply Sb.keepApp | apply Sb.cons | apply Sb.app))) (rd_fieldAddr rfl) rfl (by kernel_rfl) ?_
    refine xm_take 1 (m' := 3) rfl (by kernel_rfl) (by first | exact Sb.refl | exact Sb.nil | (repeat (first | exact Sb.nil | exact Sb.refl | exact Sb.app0 | apply Sb.keep | apply Sb.keepApp | apply Sb.cons | apply Sb.app))) (rd_load1 rfl (Cl.o0 rfl)) rfl (by kernel_rfl) ?_
    refine xm_take 2 (m' := 7) rfl (by kernel_rfl) (by first | exact Sb.refl | exact Sb.nil | (repeat (first | exact Sb.nil | exact Sb.refl | exact Sb.app0 | apply Sb.keep | apply Sb.keepApp | apply Sb.cons | apply Sb.app))) (rd_fieldAddr rfl) rfl (by kernel_rfl) ?_
    refine xm_take 3 (m' := 15) rfl (by kernel_rfl) (by first | exact Sb.refl | exact Sb.nil | (repeat (first | exact Sb.nil | exact Sb.refl | exact Sb.app0 | apply Sb.keep | apply Sb.keepApp | apply Sb.cons | apply Sb.app))) (rd_load1 rfl (Cl.o0 rfl)) rfl (by kernel_rfl) ?_
    refine xm_one 4 (m' := 31) rfl (by kernel_rfl) rfl (by kernel_rfl) (ef_call rfl (XF.mono (xf_cloneI p n c (ints .i64 cs) (by simp [ints, hn]) (hr.mono (by intro z hz; simp [hz])) (ints_one _ _) (by omega)) ?_))
    rintro v L' ⟨q, k, l, rfl, hO, hk, rfl⟩
    refine xmx_seg [_, _] l _ ?_
    refine ⟨(by first | exact Sb.refl | exact Sb.nil | (repeat (first | exact Sb.nil | exact Sb.refl | exact Sb.app0 | apply Sb.keep | apply Sb.keepApp | apply Sb.cons | apply Sb.app))), ?_⟩
    refine xm_take 5 (m' := 63) rfl (by kernel_rfl) (by first | exact Sb.refl | exact Sb.nil | (repeat (first | exact Sb.nil | exact Sb.refl | exact Sb.app0 | apply Sb.keep | apply Sb.keepApp | apply Sb.cons | apply Sb.app))) (rd_cast (v' := .agg (wEnc ct q n k).toArray) (rd_build (T := 49) rfl rfl rfl) (by kernel_rfl)) rfl (by kernel_rfl) ?_
    refine xm_one 6 (m' := 127) rfl (by kernel_rfl) rfl (by kernel_rfl) (ef_storeB [] _ rfl rfl (by first | rfl | assumption) rfl rfl rfl ?_)
    refine ⟨(by first | exact Sb.refl | exact Sb.nil | (repeat (first | exact Sb.nil | exact Sb.refl | exact Sb.app0 | apply Sb.keep | apply Sb.keepApp | apply Sb.cons | apply Sb.app))), ?_⟩
    refine xm_done (by kernel_rfl) ?_
    refine xq_seq ?_
    refine xc_ret ?_
  all_goals exact xq_retB (.inl rfl) Try.results40 rfl Kn.o0 rfl (List.sublist_append_right [_, _] _) ⟨q, k, l, rfl, hO, rfl⟩
def wz : Value := .agg (wEnc false none 0 0).toArray
/-- What is watched, told of an id. -/
def wgA (ws : List Wa) (id : Int) : Wa := (wfA ws id).getD ⟨id, false, []⟩
theorem watF_a (ws : List Wm) (id : Int) : (watF ws id).map Wm.a = wfA (ws.map Wm.a) id := by
  unfold watF wfA
  rw [List.find?_map]
  rfl
theorem watV_some (ws : List Wm) (id : Int) : (watV ws id).isSome = (wfA (ws.map Wm.a) id).isSome := by
  rw [← watF_a]; unfold watV; rw [Option.isSome_map, Option.isSome_map]
/-- What a lookup gives. -/
theorem watV_get {W : World} {L : List Blk} (ws : List Wm) (h : ∀ w, w ∈ ws → w.Ok) (hs : ∀ z, z ∈ wlb ws → z ∈ L) (id : Int) : ∃ p c, (watV ws id).getD wz = .agg (wEnc (wgA (ws.map Wm.a) id).ct p (wgA (ws.map Wm.a) id).cs.length c).toArray ∧ Rs W L p (ints .i64 (wgA (ws.map Wm.a) id).cs) ∧ (wgA (ws.map Wm.a) id).cs.length ≤ 1000000 := by
  unfold wgA
  rw [← watF_a]
  unfold watV
  cases hf : watF ws id with
  | none => exact ⟨none, 0, rfl, Rs.nil, Nat.zero_le _⟩
  | some w =>
    have hm := List.mem_of_find?_eq_some hf
    exact ⟨w.p, w.c, rfl, (h w hm).sl.rs fun z hz => hs z (List.mem_flatMap.2 ⟨w, hm, hz⟩), (h w hm).few⟩
theorem Rm.wsub {r : Nat} {x : Rm} {L : List Blk} : ∀ z, z ∈ wlb x.ws → z ∈ x.blks r L := fun z hz => List.mem_cons_of_mem _ (List.mem_cons_of_mem _ (List.mem_append_left _ hz))
set_option maxHeartbeats 800000 in
theorem xf_RWatch {W : World} {L : List Blk} (r : Nat) (x : Rm) (hx : x.Ok) (id : Int) : XF Try.prog W 17 #[.pointer (some ⟨r, 0, none⟩), .int .i64 id] (x.blks r L) (fun v L' => ∃ q k l, v = .tuple #[.agg (wEnc (wgA x.was id).ct q (wgA x.was id).cs.length k).toArray, .bool (wfA x.was id).isSome] ∧ SlO 1 3 (.slice q (wgA x.was id).cs.length k) (wgA x.was id).cs.length (ints .i64 (wgA x.was id).cs) l ∧ L' = l ++ x.blks r L) := by
  obtain ⟨p, c, hv, hrs, hl⟩ := watV_get (W := W) (L := x.blks r L) x.ws hx.wo Rm.wsub id
  have hs := watV_some x.ws id
  change (watV x.ws id).isSome = (wfA x.was id).isSome at hs
  change (watV x.ws id).getD wz = .agg (wEnc (wgA x.was id).ct p (wgA x.was id).cs.length c).toArray at hv
  change Rs W _ p (ints .i64 (wgA x.was id).cs) at hrs
  change (wgA x.was id).cs.length ≤ 1000000 at hl
  generalize wgA x.was id = w at *
  generalize (wfA x.was id).isSome = b at *
  refine xf_enter (args := [_, _]) Try.func17 rfl Try.ntmps17 rfl ?_
  focus
    refine xc_seq ?_
    refine xc_region ?_
    refine xo_ef rfl (ef_alloc fun r4 => ?_)
    refine xo_rd (rd_assign rfl) rfl ?_
    refine xo_nil ?_
    refine xq_seq ?_
    refine xc_seq ?_
    refine xc_seq ?_
    refine xc_region ?_
    refine xo_rd (rd_move rfl) rfl ?_
    refine xo_rd (rd_eqnil rfl) rfl ?_
    refine xo_nil ?_
    refine xq_seq ?_
    refine xc_condf rfl ?_
    refine xc_skip ?_
    refine xq_seq ?_
    refine xc_seq ?_
    refine xc_region ?_
    refine xo_rd (rd_move rfl) rfl ?_
    refine xo_rd (rd_nilCheck rfl) rfl ?_
    refine xo_rd (rd_fieldAddr rfl) rfl ?_
    refine xo_rd (rd_load1 rfl (Cl.o1 rfl)) rfl ?_
    refine xo_rd (rd_move rfl) rfl ?_
    refine xo_rd (rd_cast (v' := .tuple #[.agg (wEnc w.ct p w.cs.length c).toArray, .bool b]) (rd_lookupOk hx.mp rfl rfl (Rm.kn (r := r) (L := L) (by intro z hz; simp [hz]))) (by rw [← hv, ← hs]; rfl)) rfl ?_
    refine xo_rd (rd_move rfl) rfl ?_
    refine xo_rd (rd_extract rfl rfl) rfl ?_
    refine xo_rd (rd_extract rfl rfl) rfl ?_
    refine xo_ef rfl (ef_alloc fun r6 => ?_)
    refine xo_ef rfl (ef_storeB [] _ rfl rfl (by first | rfl | assumption) rfl rfl rfl ?_)
    refine xo_rd (rd_assign rfl) rfl ?_
    refine xo_nil ?_
    refine xq_seq ?_
  focus
    refine xc_seq ?_
    refine xc_region ?_
    refine xo_rd (rd_loadB rfl Kn.o0 (by rfl)) rfl ?_
    refine xo_ef rfl (ef_call rfl (XF.mono (xf_copied w.ct p w.cs.length c w.cs rfl (hrs.mono (by intro z hz; simp [hz])) hl) ?_))
    rintro v L' ⟨q, k, l, rfl, hO, rfl⟩
    refine xo_seg [_, _] l _ ?_
    refine xo_rd (rd_move rfl) rfl ?_
    refine xo_ef rfl (ef_storeB [_] _ rfl rfl (by first | rfl | assumption) rfl rfl rfl ?_)
    refine xo_rd (rd_assign rfl) rfl ?_
    refine xo_nil ?_
    refine xq_seq ?_
    refine xc_ret ?_
  exact xq_retB2 (.inl rfl) Try.results17 rfl rfl Kn.o1 rfl (List.sublist_append_right [_, _] _) ⟨q, k, l, rfl, hO, rfl⟩
theorem xf_RWatchN {W : World} {L : List Blk} (id : Int) : XF Try.prog W 17 #[.pointer none, .int .i64 id] L (fun v L' => v = .tuple #[wz, .bool false] ∧ L' = L) := by
  refine xf_enter (args := [_, _]) Try.func17 rfl Try.ntmps17 rfl ?_
  focus
    refine xc_seq ?_
    refine xc_region ?_
    refine xo_ef rfl (ef_alloc fun r4 => ?_)
    refine xo_rd (rd_assign rfl) rfl ?_
    refine xo_nil ?_
    refine xq_seq ?_
    refine xc_seq ?_
    refine xc_seq ?_
    refine xc_region ?_
    refine xo_rd (rd_move rfl) rfl ?_
    refine xo_rd (rd_eqnil rfl) rfl ?_
    refine xo_nil ?_
    refine xq_seq ?_
    refine xc_condt rfl ?_
    refine xc_seq ?_
    refine xc_region ?_
    refine xo_rd (rd_cast (v' := .agg (wEnc false none 0 0).toArray) (rd_build (T := 49) rfl rfl rfl) (by kernel_rfl)) rfl ?_
    refine xo_ef rfl (ef_storeB [] _ rfl rfl (by first | rfl | assumption) rfl rfl rfl ?_)
    refine xo_rd (rd_assign rfl) rfl ?_
    refine xo_nil ?_
    refine xq_seq ?_
    refine xc_ret ?_
    refine xq_then_ret ?_
  exact xq_retB2 (.inl rfl) Try.results17 rfl rfl Kn.o0 rfl (List.sublist_cons_self _ _) ⟨rfl, rfl⟩
theorem xf_view1 {W : World} {L : List Blk} (id : Int) (ct : Bool) (p : Option Addr) (n c : Nat) (cs : List Int) (hn : cs.length = n) (hr : Rs W L p (ints .i64 cs)) (hm : n ≤ 1000000) (q : Nat) (y : Int) (hq : Cl W L q 0 (.int .i64 y)) : XF Try.prog W 37 #[.int .i64 id, .agg (wEnc ct p n c).toArray, .pointer (some ⟨q, 0, none⟩)] L (fun v L' => v = .bool (decide (0 ≤ ixOf cs y)) ∧ L' = L) := by
  refine xf_enter (args := [_, _, _]) Try.func37 rfl Try.ntmps37 rfl ?_
  focus
    refine xc_seq ?_
    refine xc_region ?_
    refine xo_ef rfl (ef_box rfl fun r4 => ?_)
    refine xo_rd (rd_assign rfl) rfl ?_
    refine xo_nil ?_
    refine xq_seq ?_
    refine xc_seq ?_
    refine xc_region ?_
    refine xo_rd (rd_fieldAddr rfl) rfl ?_
    refine xo_rd (rd_load1 rfl (Cl.o0 rfl)) rfl ?_
    refine xo_rd (rd_load1 rfl (hq.mono (by intro z hz; simp [hz]))) rfl ?_
    refine xo_ef rfl (ef_call rfl (XF.mono (xf_containsI p n c cs y hn (hr.mono (by intro z hz; simp [hz])) (by omega)) ?_))
    rintro v L' ⟨rfl, rfl⟩
    refine xo_rd (rd_assign rfl) rfl ?_
    refine xo_nil ?_
    refine xq_seq ?_
    refine xc_ret ?_
  exact xq_sub (List.sublist_append_right [_] _) (xq_ret1 (.inl rfl) Try.results37 rfl ⟨rfl, rfl⟩)
theorem xf_aud1 {W : World} {L : List Blk} (id : Int) (ct : Bool) (p : Option Addr) (n c : Nat) (q q2 : Nat) (he : Bool) (who : Int) (hw : 0 ≤ who ∧ who ≤ 4294967295) (hq : Cl W L q 0 (.bool he)) (hq2 : Cl W L q2 1 (.int .u32 who)) : XF Try.prog W 39 #[.int .i64 id, .agg (wEnc ct p n c).toArray, .pointer (some ⟨q, 0, none⟩), .pointer (some ⟨q2, 0, none⟩)] L (fun v L' => v = .bool (ct && !(he && decide (who = id))) ∧ L' = L) := by
  refine xf_enter (args := [_, _, _, _]) Try.func39 rfl Try.ntmps39 rfl ?_
  cases ct with
  | false =>
    focus
      refine xc_seq ?_
      refine xc_region ?_
      refine xo_ef rfl (ef_box rfl fun r5 => ?_)
      refine xo_rd (rd_assign rfl) rfl ?_
      refine xo_nil ?_
      refine xq_seq ?_
      refine xc_seq ?_
      refine xc_region ?_
      refine xo_rd (rd_fieldAddr rfl) rfl ?_
      refine xo_rd (rd_load1 rfl (Cl.o0 rfl)) rfl ?_
      refine xo_rd (rd_move rfl) rfl ?_
      refine xo_gskip rfl rfl rfl rfl ?_
      refine xo_gskip rfl rfl rfl rfl ?_
      refine xo_gskipU rfl rfl rfl ?_
      refine xo_gskipU rfl rfl rfl ?_
      refine xo_gskipU rfl rfl rfl ?_
      refine xo_gskipU rfl rfl rfl ?_
      refine xo_gskipU rfl rfl rfl ?_
      refine xo_gskip rfl rfl rfl rfl ?_
      refine xo_gskip rfl rfl rfl rfl ?_
      refine xo_rd (rd_pickf rfl rfl) rfl ?_
      refine xo_rd (rd_assign rfl) rfl ?_
      refine xo_nil ?_
      refine xq_seq ?_
      refine xc_ret ?_
    exact xq_sub (List.sublist_append_right [_] _) (xq_ret1 (.inl rfl) Try.results39 rfl ⟨rfl, rfl⟩)
  | true =>
    cases he with
    | false =>
      focus
        refine xc_seq ?_
        refine xc_region ?_
        refine xo_ef rfl (ef_box rfl fun r5 => ?_)
        refine xo_rd (rd_assign rfl) rfl ?_
        refine xo_nil ?_
        refine xq_seq ?_
        refine xc_seq ?_
        refine xc_region ?_
        refine xo_rd (rd_fieldAddr rfl) rfl ?_
        refine xo_rd (rd_load1 rfl (Cl.o0 rfl)) rfl ?_
        refine xo_rd (rd_move rfl) rfl ?_
        refine xo_grd rfl rfl (rd_load1 rfl (hq.mono (by intro z hz; simp [hz]))) rfl ?_
        refine xo_grd rfl rfl (rd_move rfl) rfl ?_
        refine xo_gskip rfl rfl rfl rfl ?_
        refine xo_gskip rfl rfl rfl rfl ?_
        refine xo_gskip rfl rfl rfl rfl ?_
        refine xo_gskip rfl rfl rfl rfl ?_
        refine xo_gskip rfl rfl rfl rfl ?_
        refine xo_grd rfl rfl (rd_pickf rfl rfl) rfl ?_
        refine xo_grd rfl rfl (rd_not rfl) rfl ?_
        refine xo_rd (rd_pickt rfl rfl) rfl ?_
        refine xo_rd (rd_assign rfl) rfl ?_
        refine xo_nil ?_
        refine xq_seq ?_
        refine xc_ret ?_
      exact xq_sub (List.sublist_append_right [_] _) (xq_ret1 (.inl rfl) Try.results39 rfl ⟨rfl, rfl⟩)
    | true =>
      focus
        refine xc_seq ?_
        refine xc_region ?_
        refine xo_ef rfl (ef_box rfl fun r5 => ?_)
        refine xo_rd (rd_assign rfl) rfl ?_
        refine xo_nil ?_
        refine xq_seq ?_
        refine xc_seq ?_
        refine xc_region ?_
        refine xo_rd (rd_fieldAddr rfl) rfl ?_
        refine xo_rd (rd_load1 rfl (Cl.o0 rfl)) rfl ?_
        refine xo_rd (rd_move rfl) rfl ?_
        refine xo_grd rfl rfl (rd_load1 rfl (hq.mono (by intro z hz; simp [hz]))) rfl ?_
        refine xo_grd rfl rfl (rd_move rfl) rfl ?_
        refine xo_grd rfl rfl (rd_fieldAddr rfl) rfl ?_
        refine xo_grd rfl rfl (rd_load1 rfl (hq2.mono (by intro z hz; simp [hz]))) rfl ?_
        refine xo_grd rfl rfl (rd_convn rfl (by omega) (by omega)) rfl ?_
        refine xo_grd rfl rfl (rd_move rfl) rfl ?_
        refine xo_grd rfl rfl (rd_eql rfl rfl) rfl ?_
        refine xo_grd rfl rfl (rd_pickt rfl rfl) rfl ?_
        refine xo_grd rfl rfl (rd_not rfl) rfl ?_
        refine xo_rd (rd_pickt rfl rfl) rfl ?_
        refine xo_rd (rd_assign rfl) rfl ?_
        refine xo_nil ?_
        refine xq_seq ?_
        refine xc_ret ?_
      exact xq_sub (List.sublist_append_right [_] _) (xq_ret1 (.inl rfl) Try.results39 rfl ⟨rfl, rfl⟩)
theorem xf_58 {W : World} {L : List Blk} (FN : Nat) [hC : Cf Try.prog FN] (cap : List Value) (id : Int) (q3 q2 r mb : Nat) (mo : Obj) (f : Int → Option Value) (sz : Nat) (hm : MpIs .i64 mo f sz) (h3 : Cl W L q3 0 (.func (.func FN) #[] cap.toArray)) (h2 : Cl W L q2 0 (.pointer (some ⟨r, 0, none⟩))) (hr : Cl W L r 2 (.map (some mb))) (hk : Kn W L mb mo) (b : Bool)
    (hf : XF Try.prog W FN ([] ++ [Value.int .i64 id, (f id).getD wz] ++ cap).toArray L (fun v L' => v = .bool b ∧ L' = L)) : XF Try.prog W 58 #[.int .i64 id, .pointer (some ⟨q3, 0, none⟩), .pointer (some ⟨q2, 0, none⟩)] L (fun v L' => v = .bool (!b) ∧ L' = L) := by
  refine xf_enter (args := [_, _, _]) Try.func58 rfl Try.ntmps58 rfl ?_
  focus
    refine xc_seq ?_
    refine xc_region ?_
    refine xo_rd (rd_assign rfl) rfl ?_
    refine xo_nil ?_
    refine xq_seq ?_
    refine xc_seq ?_
    refine xc_drawML [0, 0, 0, 4, 8, 16, 0, 96, 131, 256, 1023] [0, 0, 0, 4, 8, 16, 0, 96, 131, 256, 1023] (by kernel_rfl) (by kernel_rfl) (by kernel_rfl) ?_
    refine xm_take 0 (m' := 1) rfl (by kernel_rfl) (by first | exact Sb.refl | exact Sb.nil | (repeat (first | exact Sb.nil | exact Sb.refl | exact Sb.app0 | apply Sb.keep | apply Sb.keepApp | apply Sb.cons | apply Sb.app))) (rd_load1 rfl h3) rfl (by kernel_rfl) ?_
    refine xm_take 1 (m' := 3) rfl (by kernel_rfl) (by first | exact Sb.refl | exact Sb.nil | (repeat (first | exact Sb.nil | exact Sb.refl | exact Sb.app0 | apply Sb.keep | apply Sb.keepApp | apply Sb.cons | apply Sb.app))) (rd_move rfl) rfl (by kernel_rfl) ?_
    refine xm_take 2 (m' := 7) rfl (by kernel_rfl) (by first | exact Sb.refl | exact Sb.nil | (repeat (first | exact Sb.nil | exact Sb.refl | exact Sb.app0 | apply Sb.keep | apply Sb.keepApp | apply Sb.cons | apply Sb.app))) (rd_load1 rfl h2) rfl (by kernel_rfl) ?_
    refine xm_take 3 (m' := 15) rfl (by kernel_rfl) (by first | exact Sb.refl | exact Sb.nil | (repeat (first | exact Sb.nil | exact Sb.refl | exact Sb.app0 | apply Sb.keep | apply Sb.keepApp | apply Sb.cons | apply Sb.app))) (rd_nilCheck rfl) rfl (by kernel_rfl) ?_
    refine xm_take 4 (m' := 31) rfl (by kernel_rfl) (by first | exact Sb.refl | exact Sb.nil | (repeat (first | exact Sb.nil | exact Sb.refl | exact Sb.app0 | apply Sb.keep | apply Sb.keepApp | apply Sb.cons | apply Sb.app))) (rd_fieldAddr rfl) rfl (by kernel_rfl) ?_
    refine xm_take 5 (m' := 63) rfl (by kernel_rfl) (by first | exact Sb.refl | exact Sb.nil | (repeat (first | exact Sb.nil | exact Sb.refl | exact Sb.app0 | apply Sb.keep | apply Sb.keepApp | apply Sb.cons | apply Sb.app))) (rd_load1 rfl hr) rfl (by kernel_rfl) ?_
    refine xm_take 6 (m' := 127) rfl (by kernel_rfl) (by first | exact Sb.refl | exact Sb.nil | (repeat (first | exact Sb.nil | exact Sb.refl | exact Sb.app0 | apply Sb.keep | apply Sb.keepApp | apply Sb.cons | apply Sb.app))) (rd_move rfl) rfl (by kernel_rfl) ?_
    refine xm_take 7 (m' := 255) rfl (by kernel_rfl) (by first | exact Sb.refl | exact Sb.nil | (repeat (first | exact Sb.nil | exact Sb.refl | exact Sb.app0 | apply Sb.keep | apply Sb.keepApp | apply Sb.cons | apply Sb.app))) (rd_lookup hm rfl rfl hk) rfl (by kernel_rfl) ?_
    refine xm_one 8 (m' := 511) rfl (by kernel_rfl) rfl (by kernel_rfl) (ef_callk (r := .bool b) (vs := [.int .i64 id, (f id).getD wz]) (first := []) (cap := cap) rfl rfl hf ?_)
    refine ⟨(by first | exact Sb.refl | exact Sb.nil | (repeat (first | exact Sb.nil | exact Sb.refl | exact Sb.app0 | apply Sb.keep | apply Sb.keepApp | apply Sb.cons | apply Sb.app))), ?_⟩
    refine xm_take 9 (m' := 1023) rfl (by kernel_rfl) (by first | exact Sb.refl | exact Sb.nil | (repeat (first | exact Sb.nil | exact Sb.refl | exact Sb.app0 | apply Sb.keep | apply Sb.keepApp | apply Sb.cons | apply Sb.app))) (rd_not rfl) rfl (by kernel_rfl) ?_
    refine xm_take 10 (m' := 2047) rfl (by kernel_rfl) (by first | exact Sb.refl | exact Sb.nil | (repeat (first | exact Sb.nil | exact Sb.refl | exact Sb.app0 | apply Sb.keep | apply Sb.keepApp | apply Sb.cons | apply Sb.app))) (rd_assign rfl) rfl (by kernel_rfl) ?_
    refine xm_done (by kernel_rfl) ?_
    refine xq_seq ?_
    refine xc_ret ?_
  all_goals exact xq_ret1 (.inl rfl) Try.results58 rfl ⟨rfl, rfl⟩
/-- Those for whom something holds, in order. -/
theorem xf_those {W : World} {L : List Blk} (FN : Nat) [hC : Cf Try.prog FN] (cap : List Value) (r : Nat) (x : Rm) (hx : x.Ok) (pd : Int → Bool) (hf : ∀ L' id, (∀ z, z ∈ x.blks r L → z ∈ L') → XF Try.prog W FN ([] ++ [Value.int .i64 id, (watV x.ws id).getD wz] ++ cap).toArray L' (fun v L'' => v = .bool (pd id) ∧ L'' = L')) :
    XF Try.prog W 36 #[.pointer (some ⟨r, 0, none⟩), .func (.func FN) #[] cap.toArray] (x.blks r L) (fun v L' => ∃ p k l, v = .slice p ((x.ro.ms.map Mb.id).filter pd).length k ∧ SlQ 1 3 (.slice p ((x.ro.ms.map Mb.id).filter pd).length k) ((x.ro.ms.map Mb.id).filter pd).length (ints .i64 ((x.ro.ms.map Mb.id).filter pd)) l ∧ L' = l ++ x.blks r L) := by
  have hlen : (x.ro.ms.map Mb.id).length = x.ro.ms.length := List.length_map ..
  have hl := hx.ro.fit.len
  have hl2 := hx.ro.fit.most
  refine xf_enter (args := [_, _]) Try.func36 rfl Try.ntmps36 rfl ?_
  focus
    refine xc_seq ?_
    refine xc_region ?_
    refine xo_ef rfl (ef_box rfl fun r2 => ?_)
    refine xo_ef rfl (ef_box rfl fun r3 => ?_)
    refine xo_rd (rd_assign rfl) rfl ?_
    refine xo_nil ?_
    refine xq_seq ?_
    refine xc_seq ?_
    refine xc_region ?_
    refine xo_rd (rd_load1 rfl (Cl.o1 rfl)) rfl ?_
    refine xo_ef rfl (ef_call rfl (XF.mono ((xf_RIds (L := [_, _] ++ L) r x hx).perm (x.front r [_, _] L)) ?_))
    rintro v L' ⟨p, k, l, rfl, hO, rfl⟩
    refine xo_rd (rd_makeFunc rfl rfl) rfl ?_
  have hsub : ∀ z, z ∈ x.blks r L → z ∈ x.blks r ([(r3, Obj.cells #[.func (.func FN) #[] cap.toArray] 81 (0, 0)), (r2, Obj.cells #[.pointer (some ⟨r, 0, none⟩)] 25 (0, 0))] ++ L) := fun z hz => (Rm.blks_sub r x [(r3, Obj.cells #[.func (.func FN) #[] cap.toArray] 81 (0, 0)), (r2, Obj.cells #[.pointer (some ⟨r, 0, none⟩)] 25 (0, 0))] L).subset hz
  have hdel := xf_deli58 (W := W) (R := x.blks r ([(r3, Obj.cells #[.func (.func FN) #[] cap.toArray] 81 (0, 0)), (r2, Obj.cells #[.pointer (some ⟨r, 0, none⟩)] 25 (0, 0))] ++ L)) p x.ro.ms.length k (x.ro.ms.map Mb.id) l hO.q hlen (fun id => !pd id) (by omega) r3 r2 (fun l' id _ => xf_58 FN cap id r3 r2 r x.mb x.mo (watV x.ws) x.ws.length hx.mp (Cl.own (List.mem_append_right _ ((Rm.sub r x _).subset (List.mem_cons_self))) rfl) (Cl.own (List.mem_append_right _ ((Rm.sub r x _).subset (List.mem_cons_of_mem _ List.mem_cons_self))) rfl) (Rm.cl (L := _) (fun z hz => List.mem_append_right _ hz) 2 _ rfl) (Rm.kn (r := r) (L := _) (fun z hz => List.mem_append_right _ hz)) (pd id) (hf _ id (fun z hz => List.mem_append_right _ (hsub z hz))))
  have hfl : (x.ro.ms.map Mb.id).filter (fun x => !!pd x) = (x.ro.ms.map Mb.id).filter pd := by simp
  rw [hfl] at hdel
  refine xo_ef rfl (ef_call rfl (hdel.mono ?_))
  rintro v L' ⟨l', rfl, hO', rfl⟩
  focus
    refine xo_rd (rd_assign rfl) rfl ?_
    refine xo_nil ?_
    refine xq_seq ?_
    refine xc_ret ?_
  exact xq_sub ((Rm.blks_sub r x [_, _] L).append_left l') (xq_ret1 (.inl rfl) Try.results36 rfl ⟨p, k, l', rfl, hO', rfl⟩)
end Go.Proofs.Ytmdeajdaeihniaa.X
/-
  Chapter 25: audience and viewers; a room that is new; who joins: walks of my own.
-/
namespace Go.Proofs.Ytmdeajdaeihniaa.X
open Go Go.RowKit
set_option linter.unusedVariables false
set_option linter.unusedSimpArgs false
def audP (ws : List Wa) (he : Bool) (who id : Int) : Bool := (wgA ws id).ct && !(he && decide (who = id))
def viewP (ws : List Wa) (y id : Int) : Bool := decide (0 ≤ ixOf (wgA ws id).cs y)
theorem xf_RAudience {W : World} {L : List Blk} (r : Nat) (x : Rm) (hx : x.Ok) (hw : 0 ≤ x.fm.a.who ∧ x.fm.a.who ≤ 4294967295) : XF Try.prog W 16 #[.pointer (some ⟨r, 0, none⟩)] (x.blks r L) (fun v L' => ∃ p k l, v = .slice p ((x.ro.ms.map Mb.id).filter (audP x.was x.fm.a.held x.fm.a.who)).length k ∧ SlQ 1 3 (.slice p ((x.ro.ms.map Mb.id).filter (audP x.was x.fm.a.held x.fm.a.who)).length k) ((x.ro.ms.map Mb.id).filter (audP x.was x.fm.a.held x.fm.a.who)).length (ints .i64 ((x.ro.ms.map Mb.id).filter (audP x.was x.fm.a.held x.fm.a.who))) l ∧ L' = l ++ x.blks r L) := by
  obtain ⟨he, hhe⟩ : ∃ he, x.fm.a.held = he := ⟨_, rfl⟩
  obtain ⟨who, hwho⟩ : ∃ who, x.fm.a.who = who := ⟨_, rfl⟩
  obtain ⟨no, hno⟩ : ∃ no, x.fm.a.no = no := ⟨_, rfl⟩
  obtain ⟨at', hat⟩ : ∃ at', x.fm.a.at' = at' := ⟨_, rfl⟩
  have hh := xf_RHolder (W := W) (L := L) r x hx
  rw [hhe, hwho, hno, hat] at hh
  rw [hhe, hwho]
  rw [hwho] at hw
  refine xf_enter (args := [_]) Try.func16 rfl Try.ntmps16 rfl ?_
  focus
    refine xc_seq ?_
    refine xc_region ?_
    refine xo_rd (rd_assign rfl) rfl ?_
    refine xo_nil ?_
    refine xq_seq ?_
    refine xc_seq ?_
    refine xc_region ?_
    refine xo_rd (rd_move rfl) rfl ?_
    refine xo_ef rfl (ef_call rfl (XF.mono (hh) ?_))
    rintro v L' ⟨rfl, rfl⟩
    refine xo_rd (rd_move rfl) rfl ?_
    refine xo_rd (rd_extract rfl rfl) rfl ?_
    refine xo_rd (rd_extract rfl rfl) rfl ?_
    refine xo_ef rfl (ef_alloc fun r3 => ?_)
    refine xo_ef rfl (ef_alloc fun r4 => ?_)
    refine xo_ef rfl (ef_storeB [_] _ rfl rfl (by first | rfl | assumption) rfl rfl rfl ?_)
    refine xo_ef rfl (ef_store1 [] _ rfl rfl (by first | rfl | assumption) rfl rfl rfl ?_)
    refine xo_nil ?_
    refine xq_seq ?_
  have hth := (xf_those (W := W) (L := [(r4, Obj.cells #[.bool he] 4 (0, 0)), (r3, Obj.cells (gEnc (no, who, at')).toArray 39 (0, 0))] ++ L) 39 [.pointer (some ⟨r4, 0, none⟩), .pointer (some ⟨r3, 0, none⟩)] r x hx (audP x.was he who) (fun L' id h => by
    obtain ⟨p, c, hv, hrs, hl⟩ := watV_get (W := W) (L := L') x.ws hx.wo (fun z hz => h z (Rm.wsub z hz)) id
    rw [hv]
    exact xf_aud1 id _ p _ c r4 r3 he who hw (Cl.own (h _ ((Rm.sub r x _).subset List.mem_cons_self)) rfl) (Cl.own (h _ ((Rm.sub r x _).subset (List.mem_cons_of_mem _ List.mem_cons_self))) rfl))).perm (x.front r [_, _] L)
  refine xc_sub (L' := [(r4, Obj.cells #[.bool he] 4 (0, 0)), (r3, Obj.cells (gEnc (no, who, at')).toArray 39 (0, 0))] ++ x.blks r L) (List.Sublist.refl _) ?_
  focus
    refine xc_seq ?_
    refine xc_region ?_
    refine xo_rd (rd_move rfl) rfl ?_
    refine xo_rd (rd_makeFunc rfl rfl) rfl ?_
    refine xo_ef rfl (ef_call rfl (XF.mono (hth) ?_))
    rintro v L' ⟨p, k, l, rfl, hO, rfl⟩
    refine xo_rd (rd_assign rfl) rfl ?_
    refine xo_nil ?_
    refine xq_seq ?_
    refine xc_ret ?_
  exact xq_sub ((Rm.blks_sub r x [_, _] L).append_left l) (xq_ret1 (.inl rfl) Try.results16 rfl ⟨p, k, l, rfl, hO, rfl⟩)
theorem xf_RViewers {W : World} {L : List Blk} (r : Nat) (x : Rm) (hx : x.Ok) (y : Int) : XF Try.prog W 15 #[.pointer (some ⟨r, 0, none⟩), .int .i64 y] (x.blks r L) (fun v L' => ∃ p k l, v = .slice p ((x.ro.ms.map Mb.id).filter (viewP x.was y)).length k ∧ SlQ 1 3 (.slice p ((x.ro.ms.map Mb.id).filter (viewP x.was y)).length k) ((x.ro.ms.map Mb.id).filter (viewP x.was y)).length (ints .i64 ((x.ro.ms.map Mb.id).filter (viewP x.was y))) l ∧ L' = l ++ x.blks r L) := by
  refine xf_enter (args := [_, _]) Try.func15 rfl Try.ntmps15 rfl ?_
  focus
    refine xc_seq ?_
    refine xc_region ?_
    refine xo_ef rfl (ef_box rfl fun r3 => ?_)
    refine xo_rd (rd_assign rfl) rfl ?_
    refine xo_nil ?_
    refine xq_seq ?_
  have hth := (xf_those (W := W) (L := [(r3, Obj.cells (Value.int .i64 y).cells 3 (0, 0))] ++ L) 37 [.pointer (some ⟨r3, 0, none⟩)] r x hx (viewP x.was y) (fun L' id h => by
    obtain ⟨p, c, hv, hrs, hl⟩ := watV_get (W := W) (L := L') x.ws hx.wo (fun z hz => h z (Rm.wsub z hz)) id
    rw [hv]
    exact xf_view1 id _ p _ c _ rfl hrs hl r3 y (Cl.own (h _ ((Rm.sub r x _).subset List.mem_cons_self)) rfl))).perm (x.front r [_] L)
  focus
    refine xc_seq ?_
    refine xc_region ?_
    refine xo_rd (rd_move rfl) rfl ?_
    refine xo_rd (rd_makeFunc rfl rfl) rfl ?_
    refine xo_ef rfl (ef_call rfl (XF.mono (hth) ?_))
    rintro v L' ⟨p, k, l, rfl, hO, rfl⟩
    refine xo_rd (rd_assign rfl) rfl ?_
    refine xo_nil ?_
    refine xq_seq ?_
    refine xc_ret ?_
  exact xq_sub ((Rm.blks_sub r x [_] L).append_left l) (xq_ret1 (.inl rfl) Try.results15 rfl ⟨p, k, l, rfl, hO, rfl⟩)
theorem xf_thoseN {W : World} {L : List Blk} (fv : Value) (h1 : fv.oneCell' = true) : XF Try.prog W 36 #[.pointer none, fv] L (fun v L' => v = .slice none 0 0 ∧ L' = L) := by
  refine xf_enter (args := [_, _]) Try.func36 rfl Try.ntmps36 rfl ?_
  focus
    refine xc_seq ?_
    refine xc_region ?_
    refine xo_ef rfl (ef_box rfl fun r2 => ?_)
    refine xo_ef rfl (ef_box rfl fun r3 => ?_)
    refine xo_rd (rd_assign rfl) rfl ?_
    refine xo_nil ?_
    refine xq_seq ?_
    refine xc_seq ?_
    refine xc_region ?_
    refine xo_rd (rd_load1 rfl (Cl.o1 rfl)) rfl ?_
    refine xo_ef rfl (ef_call rfl (XF.mono (xf_RIdsN) ?_))
    rintro v L' ⟨rfl, rfl⟩
    refine xo_rd (rd_makeFunc rfl rfl) rfl ?_
  refine xo_ef rfl (ef_call rfl ((xf_deli58 (W := W) (R := (r3, Obj.cells fv.cells 81 (0, 0)) :: (r2, Obj.cells (Value.pointer none).cells 25 (0, 0)) :: L) none 0 0 [] [] SlQ.nil rfl (fun _ => false) (by decide) r3 r2 (fun l' x h => by cases h)).mono ?_))
  rintro v L' ⟨l', rfl, hO', rfl⟩
  focus
    refine xo_rd (rd_assign rfl) rfl ?_
    refine xo_nil ?_
    refine xq_seq ?_
    refine xc_ret ?_
  exact xq_sub ((List.sublist_append_right [_, _] _).trans (List.sublist_append_right l' _)) (xq_ret1 (.inl rfl) Try.results36 rfl ⟨rfl, rfl⟩)
theorem xf_RAudienceN {W : World} {L : List Blk} : XF Try.prog W 16 #[.pointer none] L (fun v L' => v = .slice none 0 0 ∧ L' = L) := by
  refine xf_enter (args := [_]) Try.func16 rfl Try.ntmps16 rfl ?_
  focus
    refine xc_seq ?_
    refine xc_region ?_
    refine xo_rd (rd_assign rfl) rfl ?_
    refine xo_nil ?_
    refine xq_seq ?_
    refine xc_seq ?_
    refine xc_region ?_
    refine xo_rd (rd_move rfl) rfl ?_
    refine xo_ef rfl (ef_call rfl (XF.mono (xf_RHolderN) ?_))
    rintro v L' ⟨rfl, rfl⟩
    refine xo_rd (rd_move rfl) rfl ?_
    refine xo_rd (rd_extract rfl rfl) rfl ?_
    refine xo_rd (rd_extract rfl rfl) rfl ?_
    refine xo_ef rfl (ef_alloc fun r3 => ?_)
    refine xo_ef rfl (ef_alloc fun r4 => ?_)
    refine xo_ef rfl (ef_storeB [_] _ rfl rfl (by first | rfl | assumption) rfl rfl rfl ?_)
    refine xo_ef rfl (ef_store1 [] _ rfl rfl (by first | rfl | assumption) rfl rfl rfl ?_)
    refine xo_nil ?_
    refine xq_seq ?_
    refine xc_seq ?_
    refine xc_region ?_
    refine xo_rd (rd_move rfl) rfl ?_
    refine xo_rd (rd_makeFunc rfl rfl) rfl ?_
    refine xo_ef rfl (ef_call rfl (XF.mono (xf_thoseN _ rfl) ?_))
    rintro v L' ⟨rfl, rfl⟩
    refine xo_rd (rd_assign rfl) rfl ?_
    refine xo_nil ?_
    refine xq_seq ?_
    refine xc_ret ?_
  exact xq_sub (List.sublist_append_right [_, _] _) (xq_ret1 (.inl rfl) Try.results16 rfl ⟨rfl, rfl⟩)
theorem xf_RViewersN {W : World} {L : List Blk} (y : Int) : XF Try.prog W 15 #[.pointer none, .int .i64 y] L (fun v L' => v = .slice none 0 0 ∧ L' = L) := by
  refine xf_enter (args := [_, _]) Try.func15 rfl Try.ntmps15 rfl ?_
  focus
    refine xc_seq ?_
    refine xc_region ?_
    refine xo_ef rfl (ef_box rfl fun r3 => ?_)
    refine xo_rd (rd_assign rfl) rfl ?_
    refine xo_nil ?_
    refine xq_seq ?_
    refine xc_seq ?_
    refine xc_region ?_
    refine xo_rd (rd_move rfl) rfl ?_
    refine xo_rd (rd_makeFunc rfl rfl) rfl ?_
    refine xo_ef rfl (ef_call rfl (XF.mono (xf_thoseN _ rfl) ?_))
    rintro v L' ⟨rfl, rfl⟩
    refine xo_rd (rd_assign rfl) rfl ?_
    refine xo_nil ?_
    refine xq_seq ?_
    refine xc_ret ?_
  exact xq_sub (List.sublist_append_right [_] _) (xq_ret1 (.inl rfl) Try.results15 rfl ⟨rfl, rfl⟩)
/-- A room, by itself. -/
structure Ra where
  most : Int
  ms : List Mb
  fl : Fa
  ws : List Wa
def Rm.ra (x : Rm) : Ra := ⟨x.ro.most, x.ro.ms, x.fm.a, x.was⟩
def cfgE (m q s : Int) : List Value := [.int .i64 m, .int .i64 q, .int .u64 s]
theorem xf_RNew {W : World} {L : List Blk} (m q s : Int) (hm : 0 ≤ m ∧ m ≤ 32) (hq : 0 ≤ q ∧ q ≤ 32) (hs : 1 ≤ s) : XF Try.prog W 7 #[.agg (cfgE m q s).toArray] L (fun v L' => ∃ r, v = .tuple #[.pointer (some ⟨r, 0, none⟩), .int .i64 0] ∧ ∃ y : Rm, y.Ok ∧ y.ra = ⟨m, [], newFa q s, []⟩ ∧ L' = y.blks r L) := by
  refine xf_enter (args := [_]) Try.func7 rfl Try.ntmps7 rfl ?_
  focus
    refine xc_seq ?_
    refine xc_region ?_
    refine xo_ef rfl (ef_box rfl fun r1 => ?_)
    refine xo_rd (rd_assign rfl) rfl ?_
    refine xo_rd (rd_assign rfl) rfl ?_
    refine xo_nil ?_
    refine xq_seq ?_
    refine xc_seq ?_
    refine xc_region ?_
    refine xo_rd (rd_fieldAddr rfl) rfl ?_
    refine xo_rd (rd_load1 rfl (Cl.o0 rfl)) rfl ?_
    refine xo_ef rfl (ef_call rfl (XF.mono (xf_new m hm) ?_))
    rintro v L' ⟨ro, hro, rfl, hmo, hms, rfl⟩
    refine xo_rd (rd_move rfl) rfl ?_
    refine xo_rd (rd_extract rfl rfl) rfl ?_
    refine xo_rd (rd_extract rfl rfl) rfl ?_
    refine xo_rd (rd_assign rfl) rfl ?_
    refine xo_rd (rd_assign rfl) rfl ?_
    refine xo_nil ?_
    refine xq_seq ?_
    refine xc_seq ?_
    refine xc_region ?_
    refine xo_rd (rd_fieldAddr rfl) rfl ?_
    refine xo_rd (rd_load1 rfl (Cl.own (List.mem_append_right _ List.mem_cons_self) rfl)) rfl ?_
    refine xo_rd (rd_fieldAddr rfl) rfl ?_
    refine xo_rd (rd_load1 rfl (Cl.own (List.mem_append_right _ List.mem_cons_self) rfl)) rfl ?_
    refine xo_ef rfl (ef_call rfl (XF.mono (xf_New q s hq hs) ?_))
    rintro v L' ⟨fr, rfl, fm, hfm, hfa, rfl⟩
    refine xo_rd (rd_move rfl) rfl ?_
    refine xo_rd (rd_extract rfl rfl) rfl ?_
    refine xo_rd (rd_extract rfl rfl) rfl ?_
    refine xo_rd (rd_assign rfl) rfl ?_
    refine xo_rd (rd_assign rfl) rfl ?_
    refine xo_nil ?_
    refine xq_seq ?_
    refine xc_seq ?_
    refine xc_seq ?_
    refine xc_region ?_
    refine xo_rd (rd_move rfl) rfl ?_
    refine xo_rd (rd_neq rfl rfl) rfl ?_
    refine xo_rd (rd_move rfl) rfl ?_
    refine xo_grd rfl rfl (rd_move rfl) rfl ?_
    refine xo_grd rfl rfl (rd_neq rfl rfl) rfl ?_
    refine xo_rd (rd_pickf rfl rfl) rfl ?_
    refine xo_nil ?_
    refine xq_seq ?_
    refine xc_condf rfl ?_
    refine xc_skip ?_
    refine xq_seq ?_
    refine xc_seq ?_
    refine xc_region ?_
    refine xo_rd (rd_move rfl) rfl ?_
    refine xo_rd (rd_build rfl rfl rfl) rfl ?_
    refine xo_rd (rd_move rfl) rfl ?_
    refine xo_ef rfl (ef_makeMap fun r31 => ?_)
    refine xo_rd (rd_cast (v' := .agg (rcl ro.c fr r31).toArray) (rd_build (T := 74) rfl rfl rfl) (by kernel_rfl)) rfl ?_
    refine xo_ef rfl (ef_box rfl fun r33 => ?_)
    refine xo_rd (rd_assign rfl) rfl ?_
    refine xo_rd (rd_assign rfl) rfl ?_
    refine xo_nil ?_
    refine xq_seq ?_
    refine xc_ret ?_
  have hy : (Rm.mk ro fr fm r31 (.map #[] 0) []).Ok := ⟨hro, hfm, MpIs.empty, (fun w h => by cases h), by dsimp only; rw [hms]; rfl, (fun w h => by dsimp only at h; rw [hms] at h; cases h)⟩
  have hya : (Rm.mk ro fr fm r31 (.map #[] 0) []).ra = ⟨m, [], newFa q s, []⟩ := by unfold Rm.ra; dsimp only; rw [hmo, hms, hfa]; rfl
  refine xq_perm (((Fm.blks_perm fr fm ro.blks _).symm.cons _).cons _) ?_
  exact xq_sub ((((Fm.blks_subA fr fm [_] L).append_left ro.blks).cons_cons _).cons_cons _) (xq_ret2 (.inl rfl) Try.results7 rfl rfl ⟨r33, rfl, Rm.mk ro fr fm r31 (.map #[] 0) [], hy, hya, rfl⟩)
theorem xf_RNewE {W : World} {L : List Blk} (m q s : Int) (h : ¬ ((0 ≤ m ∧ m ≤ 32) ∧ (0 ≤ q ∧ q ≤ 32) ∧ 1 ≤ s)) : XF Try.prog W 7 #[.agg (cfgE m q s).toArray] L (fun v L' => v = .tuple #[.pointer none, .int .i64 2] ∧ L' = L) := by
  refine xf_enter (args := [_]) Try.func7 rfl Try.ntmps7 rfl ?_
  by_cases hm : 0 ≤ m ∧ m ≤ 32
  · have h2 : q < 0 ∨ 32 < q ∨ s < 1 := by omega
    focus
      refine xc_seq ?_
      refine xc_region ?_
      refine xo_ef rfl (ef_box rfl fun r1 => ?_)
      refine xo_rd (rd_assign rfl) rfl ?_
      refine xo_rd (rd_assign rfl) rfl ?_
      refine xo_nil ?_
      refine xq_seq ?_
      refine xc_seq ?_
      refine xc_region ?_
      refine xo_rd (rd_fieldAddr rfl) rfl ?_
      refine xo_rd (rd_load1 rfl (Cl.o0 rfl)) rfl ?_
      refine xo_ef rfl (ef_call rfl (XF.mono (xf_new m hm) ?_))
      rintro v L' ⟨ro, hro, rfl, hmo, hms, rfl⟩
      refine xo_rd (rd_move rfl) rfl ?_
      refine xo_rd (rd_extract rfl rfl) rfl ?_
      refine xo_rd (rd_extract rfl rfl) rfl ?_
      refine xo_rd (rd_assign rfl) rfl ?_
      refine xo_rd (rd_assign rfl) rfl ?_
      refine xo_nil ?_
      refine xq_seq ?_
      refine xc_seq ?_
      refine xc_region ?_
      refine xo_rd (rd_fieldAddr rfl) rfl ?_
      refine xo_rd (rd_load1 rfl (Cl.own (List.mem_append_right _ List.mem_cons_self) rfl)) rfl ?_
      refine xo_rd (rd_fieldAddr rfl) rfl ?_
      refine xo_rd (rd_load1 rfl (Cl.own (List.mem_append_right _ List.mem_cons_self) rfl)) rfl ?_
      refine xo_ef rfl (ef_call rfl (XF.mono (xf_NewE q s h2) ?_))
      rintro v L' ⟨rfl, rfl⟩
      refine xo_rd (rd_move rfl) rfl ?_
      refine xo_rd (rd_extract rfl rfl) rfl ?_
      refine xo_rd (rd_extract rfl rfl) rfl ?_
      refine xo_rd (rd_assign rfl) rfl ?_
      refine xo_rd (rd_assign rfl) rfl ?_
      refine xo_nil ?_
      refine xq_seq ?_
      refine xc_seq ?_
      refine xc_seq ?_
      refine xc_region ?_
      refine xo_rd (rd_move rfl) rfl ?_
      refine xo_rd (rd_neq rfl rfl) rfl ?_
      refine xo_rd (rd_move rfl) rfl ?_
      refine xo_grd rfl rfl (rd_move rfl) rfl ?_
      refine xo_grd rfl rfl (rd_neq rfl rfl) rfl ?_
      refine xo_rd (rd_pickf rfl rfl) rfl ?_
      refine xo_nil ?_
      refine xq_seq ?_
      refine xc_condt rfl ?_
      refine xc_seq ?_
      refine xc_region ?_
      refine xo_rd (rd_assign rfl) rfl ?_
      refine xo_rd (rd_assign rfl) rfl ?_
      refine xo_nil ?_
      refine xq_seq ?_
      refine xc_ret ?_
      refine xq_then_ret ?_
    exact xq_sub ((List.sublist_cons_self _ _).trans (List.sublist_append_right _ _)) (xq_ret2 (.inl rfl) Try.results7 rfl rfl ⟨rfl, rfl⟩)
  · have hm2 : m < 0 ∨ 32 < m := by omega
    by_cases h2 : (0 ≤ q ∧ q ≤ 32) ∧ 1 ≤ s
    · skip
      focus
        refine xc_seq ?_
        refine xc_region ?_
        refine xo_ef rfl (ef_box rfl fun r1 => ?_)
        refine xo_rd (rd_assign rfl) rfl ?_
        refine xo_rd (rd_assign rfl) rfl ?_
        refine xo_nil ?_
        refine xq_seq ?_
        refine xc_seq ?_
        refine xc_region ?_
        refine xo_rd (rd_fieldAddr rfl) rfl ?_
        refine xo_rd (rd_load1 rfl (Cl.o0 rfl)) rfl ?_
        refine xo_ef rfl (ef_call rfl (XF.mono (xf_new_bad m hm2) ?_))
        rintro v L' ⟨rfl, rfl⟩
        refine xo_rd (rd_move rfl) rfl ?_
        refine xo_rd (rd_extract rfl rfl) rfl ?_
        refine xo_rd (rd_extract rfl rfl) rfl ?_
        refine xo_rd (rd_assign rfl) rfl ?_
        refine xo_rd (rd_assign rfl) rfl ?_
        refine xo_nil ?_
        refine xq_seq ?_
        refine xc_seq ?_
        refine xc_region ?_
        refine xo_rd (rd_fieldAddr rfl) rfl ?_
        refine xo_rd (rd_load1 rfl (Cl.o0 rfl)) rfl ?_
        refine xo_rd (rd_fieldAddr rfl) rfl ?_
        refine xo_rd (rd_load1 rfl (Cl.o0 rfl)) rfl ?_
        refine xo_ef rfl (ef_call rfl (XF.mono (xf_New q s h2.1 h2.2) ?_))
        rintro v L' ⟨fr, rfl, fm, hfm, hfa, rfl⟩
        refine xo_rd (rd_move rfl) rfl ?_
        refine xo_rd (rd_extract rfl rfl) rfl ?_
        refine xo_rd (rd_extract rfl rfl) rfl ?_
        refine xo_rd (rd_assign rfl) rfl ?_
        refine xo_rd (rd_assign rfl) rfl ?_
        refine xo_nil ?_
        refine xq_seq ?_
        refine xc_seq ?_
        refine xc_seq ?_
        refine xc_region ?_
        refine xo_rd (rd_move rfl) rfl ?_
        refine xo_rd (rd_neq rfl rfl) rfl ?_
        refine xo_rd (rd_move rfl) rfl ?_
        refine xo_gskip rfl rfl rfl rfl ?_
        refine xo_gskip rfl rfl rfl rfl ?_
        refine xo_rd (rd_pickt rfl rfl) rfl ?_
        refine xo_nil ?_
        refine xq_seq ?_
        refine xc_condt rfl ?_
        refine xc_seq ?_
        refine xc_region ?_
        refine xo_rd (rd_assign rfl) rfl ?_
        refine xo_rd (rd_assign rfl) rfl ?_
        refine xo_nil ?_
        refine xq_seq ?_
        refine xc_ret ?_
        refine xq_then_ret ?_
      exact xq_sub ((List.sublist_cons_self _ _).trans (Fm.blks_sub fr fm _)) (xq_ret2 (.inl rfl) Try.results7 rfl rfl ⟨rfl, rfl⟩)
    · have h3 : q < 0 ∨ 32 < q ∨ s < 1 := by omega
      focus
        refine xc_seq ?_
        refine xc_region ?_
        refine xo_ef rfl (ef_box rfl fun r1 => ?_)
        refine xo_rd (rd_assign rfl) rfl ?_
        refine xo_rd (rd_assign rfl) rfl ?_
        refine xo_nil ?_
        refine xq_seq ?_
        refine xc_seq ?_
        refine xc_region ?_
        refine xo_rd (rd_fieldAddr rfl) rfl ?_
        refine xo_rd (rd_load1 rfl (Cl.o0 rfl)) rfl ?_
        refine xo_ef rfl (ef_call rfl (XF.mono (xf_new_bad m hm2) ?_))
        rintro v L' ⟨rfl, rfl⟩
        refine xo_rd (rd_move rfl) rfl ?_
        refine xo_rd (rd_extract rfl rfl) rfl ?_
        refine xo_rd (rd_extract rfl rfl) rfl ?_
        refine xo_rd (rd_assign rfl) rfl ?_
        refine xo_rd (rd_assign rfl) rfl ?_
        refine xo_nil ?_
        refine xq_seq ?_
        refine xc_seq ?_
        refine xc_region ?_
        refine xo_rd (rd_fieldAddr rfl) rfl ?_
        refine xo_rd (rd_load1 rfl (Cl.o0 rfl)) rfl ?_
        refine xo_rd (rd_fieldAddr rfl) rfl ?_
        refine xo_rd (rd_load1 rfl (Cl.o0 rfl)) rfl ?_
        refine xo_ef rfl (ef_call rfl (XF.mono (xf_NewE q s h3) ?_))
        rintro v L' ⟨rfl, rfl⟩
        refine xo_rd (rd_move rfl) rfl ?_
        refine xo_rd (rd_extract rfl rfl) rfl ?_
        refine xo_rd (rd_extract rfl rfl) rfl ?_
        refine xo_rd (rd_assign rfl) rfl ?_
        refine xo_rd (rd_assign rfl) rfl ?_
        refine xo_nil ?_
        refine xq_seq ?_
        refine xc_seq ?_
        refine xc_seq ?_
        refine xc_region ?_
        refine xo_rd (rd_move rfl) rfl ?_
        refine xo_rd (rd_neq rfl rfl) rfl ?_
        refine xo_rd (rd_move rfl) rfl ?_
        refine xo_gskip rfl rfl rfl rfl ?_
        refine xo_gskip rfl rfl rfl rfl ?_
        refine xo_rd (rd_pickt rfl rfl) rfl ?_
        refine xo_nil ?_
        refine xq_seq ?_
        refine xc_condt rfl ?_
        refine xc_seq ?_
        refine xc_region ?_
        refine xo_rd (rd_assign rfl) rfl ?_
        refine xo_rd (rd_assign rfl) rfl ?_
        refine xo_nil ?_
        refine xq_seq ?_
        refine xc_ret ?_
        refine xq_then_ret ?_
      exact xq_sub (List.sublist_cons_self _ _) (xq_ret2 (.inl rfl) Try.results7 rfl rfl ⟨rfl, rfl⟩)
end Go.Proofs.Ytmdeajdaeihniaa.X
/-
  Chapter 25: who joins: a walk of my own.
-/
namespace Go.Proofs.Ytmdeajdaeihniaa.X
open Go Go.RowKit
set_option linter.unusedVariables false
set_option linter.unusedSimpArgs false
def jnE (a : Ra) (m : Mb) : Int := if 2147483647 < m.id then 2 else joinR a.most a.ms m
def jnA (a : Ra) (m : Mb) : Ra := if jnE a m = 0 then ⟨a.most, a.ms ++ [m], joinF a.fl m.id m.mod, a.ws ++ [⟨m.id, false, []⟩]⟩ else a
theorem joinR_ok {most : Int} {l : List Mb} {m : Mb} (h : joinR most l m = 0) : m.right ∧ getId l m.id = none := by
  unfold joinR at h
  split at h
  · cases h
  · rename_i hr
    split at h
    · cases h
    · rename_i hg
      exact ⟨Decidable.not_not.1 hr, by simpa using hg⟩
def newW (id : Int) : Wm := ⟨⟨id, false, []⟩, none, 0, []⟩
theorem watF_none {ws : List Wm} {id : Int} (h : id ∉ ws.map fun w => w.a.id) : watF ws id = none := by
  unfold watF
  rw [List.find?_eq_none]
  intro w hw he
  exact h (List.mem_map.2 ⟨w, hw, by simpa using he⟩)
theorem watV_snoc {ws : List Wm} {w : Wm} (h : w.a.id ∉ ws.map fun w => w.a.id) (z : Int) : watV (ws ++ [w]) z = mupd (watV ws) w.a.id (some w.v) z := by
  unfold mupd watV
  by_cases hz : z = w.a.id
  · subst hz
    rw [if_pos rfl]
    have := watF_none h
    unfold watF at this ⊢
    rw [List.find?_append, this]
    simp
  · rw [if_neg hz]
    congr 1
    unfold watF
    rw [List.find?_append]
    have : (w.a.id == z) = false := by simp; exact fun e => hz e.symm
    rw [List.find?_cons, this]
    simp
theorem wlb_snoc (ws : List Wm) (w : Wm) : wlb (ws ++ [w]) = wlb ws ++ w.l := by unfold wlb; rw [List.flatMap_append, List.flatMap_singleton]
theorem perm_ro3 {a b c : Blk} (w m F : List Blk) : (a :: b :: c :: (w ++ (m ++ F))).Perm (m ++ (a :: b :: c :: (w ++ F))) := (by classical exact List.perm_iff_count.2 fun a => by simp only [List.append_eq, List.count_append, List.count_cons, List.count_nil, List.cons_append, List.nil_append, List.flatMap_append, List.flatMap_cons, List.flatMap_nil, List.append_nil]; omega)
/-- A call of the roster's, with three blocks ahead of what is watched. -/
theorem xj_ro {W : World} {a b c : Blk} {w F : List Blk} (x : Ro) {f : FuncId} {args : Array Value} {u : Value} {most : Int} {ms : List Mb} (h : ∀ R, XF Try.prog W f args (x.blks ++ R) (fun v L' => v = u ∧ ∃ y : Ro, y.Ok ∧ y.c = x.c ∧ y.most = most ∧ y.ms = ms ∧ L' = y.blks ++ R)) :
    XF Try.prog W f args (a :: b :: c :: (w ++ (x.blks ++ F))) (fun v L' => v = u ∧ ∃ y : Ro, (y.Ok ∧ y.c = x.c ∧ y.most = most ∧ y.ms = ms) ∧ L' = a :: b :: c :: (w ++ (y.blks ++ F))) :=
  ((h _).perm (perm_ro3 w x.blks F)).mapK fun v L' ⟨hv, y, h1, h2, h3, h4, hL⟩ => ⟨_, hL ▸ (perm_ro3 w y.blks F).symm, hv, y, ⟨h1, h2, h3, h4⟩, rfl⟩
theorem perm_fm3 {a b c : Blk} (w m : List Blk) (fr : Nat) (x : Fm) (F : List Blk) : (a :: b :: c :: (w ++ (m ++ x.blks fr F))).Perm (x.blks fr ((a :: b :: c :: (w ++ m)) ++ F)) := by
  refine List.Perm.trans ?_ (Fm.blks_perm fr x _ F)
  rw [List.cons_append, List.cons_append, List.cons_append, List.append_assoc]
theorem xj_fm {W : World} {a b c : Blk} {w m F : List Blk} (fr : Nat) (x : Fm) {f : FuncId} {args : Array Value} {u : Value} {g : Fa} (h : ∀ R, XF Try.prog W f args (x.blks fr R) (fun v L' => v = u ∧ ∃ y : Fm, y.Ok ∧ y.a = g ∧ L' = y.blks fr R)) :
    XF Try.prog W f args (a :: b :: c :: (w ++ (m ++ x.blks fr F))) (fun v L' => v = u ∧ ∃ y : Fm, (y.Ok ∧ y.a = g) ∧ L' = a :: b :: c :: (w ++ (m ++ y.blks fr F))) :=
  ((h _).perm (perm_fm3 w m fr x F)).mapK fun v L' ⟨hv, y, h1, h2, hL⟩ => ⟨_, hL ▸ (perm_fm3 w m fr y F).symm, hv, y, ⟨h1, h2⟩, rfl⟩
set_option maxHeartbeats 800000 in
theorem xf_RJoin {W : World} {L : List Blk} (r : Nat) (x : Rm) (hx : x.Ok) (m : Mb) : XF Try.prog W 31 #[.pointer (some ⟨r, 0, none⟩), .agg m.enc.toArray] (x.blks r L) (fun v L' => v = .int .i64 (jnE x.ra m) ∧ ∃ y : Rm, y.Ok ∧ y.ra = jnA x.ra m ∧ L' = y.blks r L) := by
  have hE : jnE x.ra m = if 2147483647 < m.id then 2 else joinR x.ro.most x.ro.ms m := rfl
  refine xf_enter (args := [_, _]) Try.func31 rfl Try.ntmps31 rfl ?_
  by_cases hbig : 2147483647 < m.id
  · rw [if_pos hbig] at hE
    focus
      refine xc_seq ?_
      refine xc_region ?_
      refine xo_ef rfl (ef_box rfl fun r3 => ?_)
      refine xo_rd (rd_assign rfl) rfl ?_
      refine xo_nil ?_
      refine xq_seq ?_
      refine xc_seq ?_
      refine xc_block ?_
      refine xc_seq ?_
      refine xc_region ?_
      refine xo_rd (rd_move rfl) rfl ?_
      refine xo_rd (rd_eqnil rfl) rfl ?_
      refine xo_rd (rd_assign rfl) rfl ?_
      refine xo_nil ?_
      refine xq_seq ?_
      refine xc_condf rfl ?_
      refine xc_seq ?_
      refine xc_region ?_
      refine xo_rd (rd_fieldAddr rfl) rfl ?_
      refine xo_rd (rd_load1 rfl (Cl.o0 rfl)) rfl ?_
      refine xo_rd (rd_gtr rfl rfl) rfl ?_
      refine xo_rd (rd_assign rfl) rfl ?_
      refine xo_nil ?_
      refine xq_seq ?_
      refine xc_dec rfl (fun h1 => ?_) (fun h1 => (by exfalso; omega))
      refine xc_seq ?_
      refine xc_region ?_
      refine xo_rd (rd_assign rfl) rfl ?_
      refine xo_nil ?_
      refine xq_seq ?_
      refine xc_ret ?_
      refine xq_block_ret ?_
      refine xq_then_ret ?_
    exact xq_sub (List.sublist_cons_self _ _) (xq_ret1 (.inl rfl) Try.results31 rfl ⟨by rw [hE], x, hx, by rw [jnA, hE]; rfl, rfl⟩)
  rw [if_neg hbig] at hE
  unfold Rm.blks
  have hjn := fun a b c F => xj_ro (W := W) (a := a) (b := b) (c := c) (w := wlb x.ws) (F := F) x.ro (fun R => xf_join x.ro hx.ro m)
  by_cases hj : joinR x.ro.most x.ro.ms m = 0
  · rw [hj] at hE hjn
    focus
      refine xc_seq ?_
      refine xc_region ?_
      refine xo_ef rfl (ef_box rfl fun r3 => ?_)
      refine xo_rd (rd_assign rfl) rfl ?_
      refine xo_nil ?_
      refine xq_seq ?_
      refine xc_seq ?_
      refine xc_block ?_
      refine xc_seq ?_
      refine xc_region ?_
      refine xo_rd (rd_move rfl) rfl ?_
      refine xo_rd (rd_eqnil rfl) rfl ?_
      refine xo_rd (rd_assign rfl) rfl ?_
      refine xo_nil ?_
      refine xq_seq ?_
      refine xc_condf rfl ?_
      refine xc_seq ?_
      refine xc_region ?_
      refine xo_rd (rd_fieldAddr rfl) rfl ?_
      refine xo_rd (rd_load1 rfl (Cl.o0 rfl)) rfl ?_
      refine xo_rd (rd_gtr rfl rfl) rfl ?_
      refine xo_rd (rd_assign rfl) rfl ?_
      refine xo_nil ?_
      refine xq_seq ?_
      refine xc_dec rfl (fun h1 => (by exfalso; omega)) (fun h1 => ?_)
      refine xc_skip ?_
      refine xq_block ?_
      refine xq_seq ?_
      refine xc_seq ?_
      refine xc_seq ?_
      refine xc_drawM [0, 1, 2, 4, 8, 0, 48, 127] [0, 1, 2, 4, 8, 0, 48, 127] ([(r3, Obj.cells m.enc.toArray 34 (0, 0)), (r, Obj.cells (rcl x.ro.c x.fr x.mb).toArray 74 (0, 0))]) (by kernel_rfl) (by kernel_rfl) (by kernel_rfl) ?_
      refine xm_take 0 (m' := 1) rfl (by kernel_rfl) (by first | exact Sb.refl | exact Sb.nil | (repeat (first | exact Sb.nil | exact Sb.refl | exact Sb.app0 | apply Sb.keep | apply Sb.keepApp | apply Sb.cons | apply Sb.app))) (rd_move rfl) rfl (by kernel_rfl) ?_
      refine xm_take 1 (m' := 3) rfl (by kernel_rfl) (by first | exact Sb.refl | exact Sb.nil | (repeat (first | exact Sb.nil | exact Sb.refl | exact Sb.app0 | apply Sb.keep | apply Sb.keepApp | apply Sb.cons | apply Sb.app))) (rd_nilCheck rfl) rfl (by kernel_rfl) ?_
      refine xm_take 2 (m' := 7) rfl (by kernel_rfl) (by first | exact Sb.refl | exact Sb.nil | (repeat (first | exact Sb.nil | exact Sb.refl | exact Sb.app0 | apply Sb.keep | apply Sb.keepApp | apply Sb.cons | apply Sb.app))) (rd_fieldAddr rfl) rfl (by kernel_rfl) ?_
      refine xm_take 3 (m' := 15) rfl (by kernel_rfl) (by first | exact Sb.refl | exact Sb.nil | (repeat (first | exact Sb.nil | exact Sb.refl | exact Sb.app0 | apply Sb.keep | apply Sb.keepApp | apply Sb.cons | apply Sb.app))) (rd_fieldAddr rfl) rfl (by kernel_rfl) ?_
      refine xm_take 4 (m' := 31) rfl (by kernel_rfl) (by first | exact Sb.refl | exact Sb.nil | (repeat (first | exact Sb.nil | exact Sb.refl | exact Sb.app0 | apply Sb.keep | apply Sb.keepApp | apply Sb.cons | apply Sb.app))) (rd_load1 rfl (Cl.own (List.mem_cons_of_mem _ List.mem_cons_self) rfl)) rfl (by kernel_rfl) ?_
      refine xm_take 5 (m' := 63) rfl (by kernel_rfl) (by first | exact Sb.refl | exact Sb.nil | (repeat (first | exact Sb.nil | exact Sb.refl | exact Sb.app0 | apply Sb.keep | apply Sb.keepApp | apply Sb.cons | apply Sb.app))) (rd_loadB rfl Kn.o0 (by rfl)) rfl (by kernel_rfl) ?_
      refine xm_one 6 (m' := 127) rfl (by kernel_rfl) rfl (by kernel_rfl) (ef_call rfl (XF.mono (hjn _ _ _ _) ?_))
      rintro v L' ⟨rfl, y, ⟨hy, hyc, hym, hyms⟩, rfl⟩
      refine ⟨(by first | exact Sb.refl | exact Sb.nil | (repeat (first | exact Sb.nil | exact Sb.refl | exact Sb.app0 | apply Sb.keep | apply Sb.keepApp | apply Sb.cons | apply Sb.app))), ?_⟩
      refine xm_take 7 (m' := 255) rfl (by kernel_rfl) (by first | exact Sb.refl | exact Sb.nil | (repeat (first | exact Sb.nil | exact Sb.refl | exact Sb.app0 | apply Sb.keep | apply Sb.keepApp | apply Sb.cons | apply Sb.app))) (rd_assign rfl) rfl (by kernel_rfl) ?_
      refine xm_done (by kernel_rfl) ?_
      refine xq_seq ?_
      refine xc_seq ?_
      refine xc_region ?_
      refine xo_rd (rd_move rfl) rfl ?_
      refine xo_rd (rd_neq rfl rfl) rfl ?_
      refine xo_nil ?_
      refine xq_seq ?_
      refine xc_condf rfl ?_
      refine xc_skip ?_
      refine xq_seq ?_
    obtain ⟨hright, hget⟩ := joinR_ok hj
    have hid0 : 0 ≤ m.id := by
      rcases Int.lt_or_le m.id 0 with h | h
      · exact absurd (.inl h) hright
      · exact h
    have hym2 : y.ms = x.ro.ms ++ [m] := by rw [hyms]; unfold joinL; rw [if_pos hj]
    have hni : m.id ∉ x.ws.map fun w => w.a.id := by rw [hx.ids]; exact getId_none hget
    have hwn : (watV x.ws m.id).isSome = false := by unfold watV; rw [watF_none hni]; rfl
    have hfj := fun a b c mm F => xj_fm (W := W) (a := a) (b := b) (c := c) (w := wlb x.ws) (m := mm) (F := F) x.fr x.fm (fun R => xf_Join x.fr x.fm hx.fm m.id m.mod)
    generalize joinE x.fm.a m.id = je at *
    focus
      refine xc_seq ?_
      refine xc_drawM [0, 1, 2, 4, 0, 16, 32, 0, 128, 328] [0, 1, 2, 4, 0, 16, 32, 0, 128, 328] ([(r3, Obj.cells m.enc.toArray 34 (0, 0)), (r, Obj.cells (rcl x.ro.c x.fr x.mb).toArray 74 (0, 0))]) (by kernel_rfl) (by kernel_rfl) (by kernel_rfl) ?_
      refine xm_take 0 (m' := 1) rfl (by kernel_rfl) (by first | exact Sb.refl | exact Sb.nil | (repeat (first | exact Sb.nil | exact Sb.refl | exact Sb.app0 | apply Sb.keep | apply Sb.keepApp | apply Sb.cons | apply Sb.app))) (rd_move rfl) rfl (by kernel_rfl) ?_
      refine xm_take 1 (m' := 3) rfl (by kernel_rfl) (by first | exact Sb.refl | exact Sb.nil | (repeat (first | exact Sb.nil | exact Sb.refl | exact Sb.app0 | apply Sb.keep | apply Sb.keepApp | apply Sb.cons | apply Sb.app))) (rd_nilCheck rfl) rfl (by kernel_rfl) ?_
      refine xm_take 2 (m' := 7) rfl (by kernel_rfl) (by first | exact Sb.refl | exact Sb.nil | (repeat (first | exact Sb.nil | exact Sb.refl | exact Sb.app0 | apply Sb.keep | apply Sb.keepApp | apply Sb.cons | apply Sb.app))) (rd_fieldAddr rfl) rfl (by kernel_rfl) ?_
      refine xm_take 3 (m' := 15) rfl (by kernel_rfl) (by first | exact Sb.refl | exact Sb.nil | (repeat (first | exact Sb.nil | exact Sb.refl | exact Sb.app0 | apply Sb.keep | apply Sb.keepApp | apply Sb.cons | apply Sb.app))) (rd_load1 rfl (Cl.own (List.mem_cons_of_mem _ List.mem_cons_self) rfl)) rfl (by kernel_rfl) ?_
      refine xm_take 4 (m' := 31) rfl (by kernel_rfl) (by first | exact Sb.refl | exact Sb.nil | (repeat (first | exact Sb.nil | exact Sb.refl | exact Sb.app0 | apply Sb.keep | apply Sb.keepApp | apply Sb.cons | apply Sb.app))) (rd_fieldAddr rfl) rfl (by kernel_rfl) ?_
      refine xm_take 5 (m' := 63) rfl (by kernel_rfl) (by first | exact Sb.refl | exact Sb.nil | (repeat (first | exact Sb.nil | exact Sb.refl | exact Sb.app0 | apply Sb.keep | apply Sb.keepApp | apply Sb.cons | apply Sb.app))) (rd_load1 rfl (Cl.o0 rfl)) rfl (by kernel_rfl) ?_
      refine xm_take 6 (m' := 127) rfl (by kernel_rfl) (by first | exact Sb.refl | exact Sb.nil | (repeat (first | exact Sb.nil | exact Sb.refl | exact Sb.app0 | apply Sb.keep | apply Sb.keepApp | apply Sb.cons | apply Sb.app))) (rd_convn rfl (by omega) (by omega)) rfl (by kernel_rfl) ?_
      refine xm_take 7 (m' := 255) rfl (by kernel_rfl) (by first | exact Sb.refl | exact Sb.nil | (repeat (first | exact Sb.nil | exact Sb.refl | exact Sb.app0 | apply Sb.keep | apply Sb.keepApp | apply Sb.cons | apply Sb.app))) (rd_fieldAddr rfl) rfl (by kernel_rfl) ?_
      refine xm_take 8 (m' := 511) rfl (by kernel_rfl) (by first | exact Sb.refl | exact Sb.nil | (repeat (first | exact Sb.nil | exact Sb.refl | exact Sb.app0 | apply Sb.keep | apply Sb.keepApp | apply Sb.cons | apply Sb.app))) (rd_load1 rfl (Cl.o0 rfl)) rfl (by kernel_rfl) ?_
      refine xm_one 9 (m' := 1023) rfl (by kernel_rfl) rfl (by kernel_rfl) (ef_call rfl (XF.mono (hfj _ _ _ _ _) ?_))
      rintro v L' ⟨rfl, z, ⟨hz, hza⟩, rfl⟩
      refine ⟨(by first | exact Sb.refl | exact Sb.nil | (repeat (first | exact Sb.nil | exact Sb.refl | exact Sb.app0 | apply Sb.keep | apply Sb.keepApp | apply Sb.cons | apply Sb.app))), ?_⟩
      refine xm_done (by kernel_rfl) ?_
      refine xq_seq ?_
    focus
      refine xc_seq ?_
      refine xc_drawM [0, 1, 2, 4, 0, 16, 0, 127] [0, 1, 2, 4, 0, 16, 0, 127] ([(r3, Obj.cells m.enc.toArray 34 (0, 0)), (r, Obj.cells (rcl x.ro.c x.fr x.mb).toArray 74 (0, 0))]) (by kernel_rfl) (by kernel_rfl) (by kernel_rfl) ?_
      refine xm_take 0 (m' := 1) rfl (by kernel_rfl) (by first | exact Sb.refl | exact Sb.nil | (repeat (first | exact Sb.nil | exact Sb.refl | exact Sb.app0 | apply Sb.keep | apply Sb.keepApp | apply Sb.cons | apply Sb.app))) (rd_move rfl) rfl (by kernel_rfl) ?_
      refine xm_take 1 (m' := 3) rfl (by kernel_rfl) (by first | exact Sb.refl | exact Sb.nil | (repeat (first | exact Sb.nil | exact Sb.refl | exact Sb.app0 | apply Sb.keep | apply Sb.keepApp | apply Sb.cons | apply Sb.app))) (rd_nilCheck rfl) rfl (by kernel_rfl) ?_
      refine xm_take 2 (m' := 7) rfl (by kernel_rfl) (by first | exact Sb.refl | exact Sb.nil | (repeat (first | exact Sb.nil | exact Sb.refl | exact Sb.app0 | apply Sb.keep | apply Sb.keepApp | apply Sb.cons | apply Sb.app))) (rd_fieldAddr rfl) rfl (by kernel_rfl) ?_
      refine xm_take 3 (m' := 15) rfl (by kernel_rfl) (by first | exact Sb.refl | exact Sb.nil | (repeat (first | exact Sb.nil | exact Sb.refl | exact Sb.app0 | apply Sb.keep | apply Sb.keepApp | apply Sb.cons | apply Sb.app))) (rd_load1 rfl (Cl.o1 rfl)) rfl (by kernel_rfl) ?_
      refine xm_take 4 (m' := 31) rfl (by kernel_rfl) (by first | exact Sb.refl | exact Sb.nil | (repeat (first | exact Sb.nil | exact Sb.refl | exact Sb.app0 | apply Sb.keep | apply Sb.keepApp | apply Sb.cons | apply Sb.app))) (rd_fieldAddr rfl) rfl (by kernel_rfl) ?_
      refine xm_take 5 (m' := 63) rfl (by kernel_rfl) (by first | exact Sb.refl | exact Sb.nil | (repeat (first | exact Sb.nil | exact Sb.refl | exact Sb.app0 | apply Sb.keep | apply Sb.keepApp | apply Sb.cons | apply Sb.app))) (rd_load1 rfl (Cl.o0 rfl)) rfl (by kernel_rfl) ?_
      refine xm_take 6 (m' := 127) rfl (by kernel_rfl) (by first | exact Sb.refl | exact Sb.nil | (repeat (first | exact Sb.nil | exact Sb.refl | exact Sb.app0 | apply Sb.keep | apply Sb.keepApp | apply Sb.cons | apply Sb.app))) (rd_cast (v' := .agg (wEnc false none 0 0).toArray) (rd_build (T := 49) rfl rfl rfl) (by kernel_rfl)) rfl (by kernel_rfl) ?_
      refine xm_one 7 (m' := 255) rfl (by kernel_rfl) rfl (by kernel_rfl) (ef_mapUpdate [_, _] _ hx.mp rfl rfl rfl rfl fun mo2 hmp2 => ?_)
      refine ⟨(by first | exact Sb.refl | exact Sb.nil | (repeat (first | exact Sb.nil | exact Sb.refl | exact Sb.app0 | apply Sb.keep | apply Sb.keepApp | apply Sb.cons | apply Sb.app))), ?_⟩
      refine xm_done (by kernel_rfl) ?_
      refine xq_seq ?_
      refine xc_seq ?_
      refine xc_region ?_
      refine xo_rd (rd_assign rfl) rfl ?_
      refine xo_nil ?_
      refine xq_seq ?_
      refine xc_ret ?_
    have hmp3 : MpIs .i64 mo2 (watV (x.ws ++ [newW m.id])) (x.ws ++ [newW m.id]).length := hmp2.cong (fun z => (watV_snoc (w := newW m.id) hni z).symm) (by rw [hwn, List.length_append]; rfl)
    have hyo : (Rm.mk y x.fr z x.mb mo2 (x.ws ++ [newW m.id])).Ok := by
      refine ⟨hy, hz, hmp3, fun w hw => ?_, ?_, fun u hu => ?_⟩
      · rcases List.mem_append.1 hw with h | h
        · exact hx.wo w h
        · rw [List.mem_singleton.1 h]; exact ⟨SlQ.nil, Nat.zero_le _⟩
      · dsimp only
        rw [hym2, List.map_append, List.map_append, hx.ids]; rfl
      · dsimp only at hu
        rw [hym2] at hu
        rcases List.mem_append.1 hu with h | h
        · exact hx.rg u h
        · rw [List.mem_singleton.1 h]; omega
    have hra : (Rm.mk y x.fr z x.mb mo2 (x.ws ++ [newW m.id])).ra = jnA x.ra m := by
      rw [jnA, hE, if_pos rfl]
      unfold Rm.ra Rm.was
      dsimp only
      rw [hym, hym2, hza, List.map_append]; rfl
    all_goals exact xq_sub (List.sublist_cons_self _ _) (xq_ret1 (.inl rfl) Try.results31 rfl ⟨by rw [hE], _, hyo, hra, by dsimp only; rw [hyc, wlb_snoc, show (newW m.id).l = [] from rfl, List.append_nil]; rfl⟩)
  · have hjl : joinL x.ro.most x.ro.ms m = x.ro.ms := by unfold joinL; rw [if_neg hj]
    rw [hjl] at hjn
    generalize hje : joinR x.ro.most x.ro.ms m = je at *
    focus
      refine xc_seq ?_
      refine xc_region ?_
      refine xo_ef rfl (ef_box rfl fun r3 => ?_)
      refine xo_rd (rd_assign rfl) rfl ?_
      refine xo_nil ?_
      refine xq_seq ?_
      refine xc_seq ?_
      refine xc_block ?_
      refine xc_seq ?_
      refine xc_region ?_
      refine xo_rd (rd_move rfl) rfl ?_
      refine xo_rd (rd_eqnil rfl) rfl ?_
      refine xo_rd (rd_assign rfl) rfl ?_
      refine xo_nil ?_
      refine xq_seq ?_
      refine xc_condf rfl ?_
      refine xc_seq ?_
      refine xc_region ?_
      refine xo_rd (rd_fieldAddr rfl) rfl ?_
      refine xo_rd (rd_load1 rfl (Cl.o0 rfl)) rfl ?_
      refine xo_rd (rd_gtr rfl rfl) rfl ?_
      refine xo_rd (rd_assign rfl) rfl ?_
      refine xo_nil ?_
      refine xq_seq ?_
      refine xc_dec rfl (fun h1 => (by exfalso; omega)) (fun h1 => ?_)
      refine xc_skip ?_
      refine xq_block ?_
      refine xq_seq ?_
      refine xc_seq ?_
      refine xc_seq ?_
      refine xc_drawM [0, 1, 2, 4, 8, 0, 48, 127] [0, 1, 2, 4, 8, 0, 48, 127] ([(r3, Obj.cells m.enc.toArray 34 (0, 0)), (r, Obj.cells (rcl x.ro.c x.fr x.mb).toArray 74 (0, 0))]) (by kernel_rfl) (by kernel_rfl) (by kernel_rfl) ?_
      refine xm_take 0 (m' := 1) rfl (by kernel_rfl) (by first | exact Sb.refl | exact Sb.nil | (repeat (first | exact Sb.nil | exact Sb.refl | exact Sb.app0 | apply Sb.keep | apply Sb.keepApp | apply Sb.cons | apply Sb.app))) (rd_move rfl) rfl (by kernel_rfl) ?_
      refine xm_take 1 (m' := 3) rfl (by kernel_rfl) (by first | exact Sb.refl | exact Sb.nil | (repeat (first | exact Sb.nil | exact Sb.refl | exact Sb.app0 | apply Sb.keep | apply Sb.keepApp | apply Sb.cons | apply Sb.app))) (rd_nilCheck rfl) rfl (by kernel_rfl) ?_
      refine xm_take 2 (m' := 7) rfl (by kernel_rfl) (by first | exact Sb.refl | exact Sb.nil | (repeat (first | exact Sb.nil | exact Sb.refl | exact Sb.app0 | apply Sb.keep | apply Sb.keepApp | apply Sb.cons | apply Sb.app))) (rd_fieldAddr rfl) rfl (by kernel_rfl) ?_
      refine xm_take 3 (m' := 15) rfl (by kernel_rfl) (by first | exact Sb.refl | exact Sb.nil | (repeat (first | exact Sb.nil | exact Sb.refl | exact Sb.app0 | apply Sb.keep | apply Sb.keepApp | apply Sb.cons | apply Sb.app))) (rd_fieldAddr rfl) rfl (by kernel_rfl) ?_
      refine xm_take 4 (m' := 31) rfl (by kernel_rfl) (by first | exact Sb.refl | exact Sb.nil | (repeat (first | exact Sb.nil | exact Sb.refl | exact Sb.app0 | apply Sb.keep | apply Sb.keepApp | apply Sb.cons | apply Sb.app))) (rd_load1 rfl (Cl.own (List.mem_cons_of_mem _ List.mem_cons_self) rfl)) rfl (by kernel_rfl) ?_
      refine xm_take 5 (m' := 63) rfl (by kernel_rfl) (by first | exact Sb.refl | exact Sb.nil | (repeat (first | exact Sb.nil | exact Sb.refl | exact Sb.app0 | apply Sb.keep | apply Sb.keepApp | apply Sb.cons | apply Sb.app))) (rd_loadB rfl Kn.o0 (by rfl)) rfl (by kernel_rfl) ?_
      refine xm_one 6 (m' := 127) rfl (by kernel_rfl) rfl (by kernel_rfl) (ef_call rfl (XF.mono (hjn _ _ _ _) ?_))
      rintro v L' ⟨rfl, y, ⟨hy, hyc, hym, hyms⟩, rfl⟩
      refine ⟨(by first | exact Sb.refl | exact Sb.nil | (repeat (first | exact Sb.nil | exact Sb.refl | exact Sb.app0 | apply Sb.keep | apply Sb.keepApp | apply Sb.cons | apply Sb.app))), ?_⟩
      refine xm_take 7 (m' := 255) rfl (by kernel_rfl) (by first | exact Sb.refl | exact Sb.nil | (repeat (first | exact Sb.nil | exact Sb.refl | exact Sb.app0 | apply Sb.keep | apply Sb.keepApp | apply Sb.cons | apply Sb.app))) (rd_assign rfl) rfl (by kernel_rfl) ?_
      refine xm_done (by kernel_rfl) ?_
      refine xq_seq ?_
      refine xc_seq ?_
      refine xc_region ?_
      refine xo_rd (rd_move rfl) rfl ?_
      refine xo_rd (rd_neq rfl rfl) rfl ?_
      refine xo_nil ?_
      refine xq_seq ?_
      refine xc_ndec rfl (fun h2 => ?_) (fun h2 => (by exfalso; omega))
      refine xc_seq ?_
      refine xc_region ?_
      refine xo_rd (rd_move rfl) rfl ?_
      refine xo_rd (rd_assign rfl) rfl ?_
      refine xo_nil ?_
      refine xq_seq ?_
      refine xc_ret ?_
      refine xq_then_ret ?_
    have hyo : (Rm.mk y x.fr x.fm x.mb x.mo x.ws).Ok := ⟨hy, hx.fm, hx.mp, hx.wo, by dsimp only; rw [hyms]; exact hx.ids, by dsimp only; rw [hyms]; exact hx.rg⟩
    all_goals exact xq_sub (List.sublist_cons_self _ _) (xq_ret1 (.inl rfl) Try.results31 rfl ⟨by rw [hE], _, hyo, by rw [jnA, hE, if_neg hj]; unfold Rm.ra Rm.was; dsimp only; rw [hym, hyms], by dsimp only; rw [hyc]⟩)
end Go.Proofs.Ytmdeajdaeihniaa.X
/-
  Chapter 25: who subscribes: a walk of my own.
-/
namespace Go.Proofs.Ytmdeajdaeihniaa.X
open Go Go.RowKit
set_option linter.unusedVariables false
set_option linter.unusedSimpArgs false
/-- What is watched may be watched: a member, and nobody twice, nor oneself. -/
def dupI (id : Int) (l : List Int) : Bool := match l with
  | [] => false
  | _ => (List.range l.length).any fun i => decide (l.getD i 0 = id) || decide (l.getD i 0 ∈ l.take i)
def sbE (a : Ra) (id : Int) (cs : List Int) : Int := if ((id :: cs).all fun k => (getId a.ms k).isSome) = true then (if dupI id cs = true then 2 else 0) else 130
def setW (ws : List Wa) (w : Wa) : List Wa := ws.map fun u => if u.id = w.id then w else u
def sbA (a : Ra) (id : Int) (ct : Bool) (cs : List Int) : Ra := if sbE a id cs = 0 then { a with ws := setW a.ws ⟨id, ct, cs⟩ } else a
theorem dupI_def (id : Int) (l : List Int) : dupI id l = (List.range l.length).any fun i => decide (l.getD i 0 = id) || decide (l.getD i 0 ∈ l.take i) := by
  cases l <;> rfl
theorem sub_sb {r5 r m : Blk} (l A w B F : List Blk) : (r :: m :: (l ++ ((A ++ B) ++ F))).Sublist (r5 :: r :: m :: (l ++ ((A ++ (w ++ B)) ++ F))) :=
  (((List.Sublist.refl l).append (((List.Sublist.refl A).append (List.sublist_append_right w B)).append (List.Sublist.refl F))).cons_cons _ |>.cons_cons _).trans (List.sublist_cons_self _ _)
theorem perm_sb {r m : Blk} (l A B F : List Blk) : (r :: m :: (l ++ ((A ++ B) ++ F))).Perm (r :: m :: ((A ++ (l ++ B)) ++ F)) := (by classical exact List.perm_iff_count.2 fun a => by simp only [List.append_eq, List.count_append, List.count_cons, List.count_nil, List.cons_append, List.nil_append, List.flatMap_append, List.flatMap_cons, List.flatMap_nil, List.append_nil]; omega)
theorem perm_ws (A B C : List Blk) {a b : Blk} (F : List Blk) : (C ++ (a :: b :: ((A ++ B) ++ F))).Perm (a :: b :: ((A ++ (C ++ B)) ++ F)) := (by classical exact List.perm_iff_count.2 fun a => by simp only [List.append_eq, List.count_append, List.count_cons, List.count_nil, List.cons_append, List.nil_append, List.flatMap_append, List.flatMap_cons, List.flatMap_nil, List.append_nil]; omega)
theorem wm_split {ws : List Wm} {id : Int} (h : id ∈ ws.map fun w => w.a.id) (hn : (ws.map fun w => w.a.id).Nodup) : ∃ A w B, ws = A ++ w :: B ∧ w.a.id = id ∧ (∀ u, u ∈ A → u.a.id ≠ id) ∧ ∀ u, u ∈ B → u.a.id ≠ id := by
  obtain ⟨w, hw, he⟩ := List.mem_map.1 h
  obtain ⟨A, B, rfl⟩ := List.append_of_mem hw
  refine ⟨A, w, B, rfl, he, fun u hu e => ?_, fun u hu e => ?_⟩
  · rw [List.map_append, List.map_cons] at hn
    exact (List.nodup_append.1 hn).2.2 _ (List.mem_map.2 ⟨u, hu, rfl⟩) _ List.mem_cons_self (e.trans he.symm)
  · rw [List.map_append, List.map_cons] at hn
    have := (List.nodup_cons.1 (List.nodup_append.1 hn).2.1).1
    exact this (List.mem_map.2 ⟨u, hu, e.trans he.symm⟩)
theorem watF_split {A B : List Wm} {w : Wm} (hA : ∀ u, u ∈ A → u.a.id ≠ w.a.id) (z : Int) : watF (A ++ w :: B) z = if z = w.a.id then some w else watF (A ++ B) z := by
  unfold watF
  rw [List.find?_append, List.find?_append, List.find?_cons]
  by_cases hz : z = w.a.id
  · subst hz
    rw [if_pos rfl]
    have : A.find? (fun u => u.a.id == w.a.id) = none := by
      rw [List.find?_eq_none]
      intro u hu he
      exact hA u hu (by simpa using he)
    rw [this]; simp
  · rw [if_neg hz]
    have : (w.a.id == z) = false := by simp; exact fun e => hz e.symm
    rw [this]
theorem watV_swap {A B : List Wm} {w u : Wm} (he : u.a.id = w.a.id) (hA : ∀ v, v ∈ A → v.a.id ≠ w.a.id) (z : Int) : watV (A ++ u :: B) z = mupd (watV (A ++ w :: B)) w.a.id (some u.v) z := by
  show (watF (A ++ u :: B) z).map Wm.v = if z = w.a.id then some u.v else (watF (A ++ w :: B) z).map Wm.v
  rw [watF_split (w := u) (fun v hv => he ▸ hA v hv), watF_split hA, he]
  by_cases h : z = w.a.id
  · rw [if_pos h, if_pos h]; rfl
  · rw [if_neg h, if_neg h, if_neg h]
theorem wlb_split (A B : List Wm) (w : Wm) : wlb (A ++ w :: B) = wlb A ++ (w.l ++ wlb B) := by unfold wlb; rw [List.flatMap_append, List.flatMap_cons]
theorem was_swap {A B : List Wm} {w u : Wm} (he : u.a.id = w.a.id) (hA : ∀ v, v ∈ A → v.a.id ≠ w.a.id) (hB : ∀ v, v ∈ B → v.a.id ≠ w.a.id) : (A ++ u :: B).map Wm.a = setW ((A ++ w :: B).map Wm.a) u.a := by
  unfold setW
  rw [List.map_map, List.map_append, List.map_append, List.map_cons, List.map_cons]
  have h1 : ∀ l : List Wm, (∀ v, v ∈ l → v.a.id ≠ w.a.id) → l.map ((fun v : Wa => if v.id = u.a.id then u.a else v) ∘ Wm.a) = l.map Wm.a := fun l hl => List.map_congr_left fun v hv => by
    show (if v.a.id = u.a.id then u.a else v.a) = v.a
    rw [if_neg (by rw [he]; exact hl v hv)]
  rw [h1 A hA, h1 B hB]
  congr 2
  show u.a = if w.a.id = u.a.id then u.a else w.a
  rw [if_pos he.symm]
set_option maxHeartbeats 1600000 in
theorem xf_RSubscribe {W : World} {L : List Blk} (r : Nat) (x : Rm) (hx : x.Ok) (id : Int) (ct : Bool) (p : Option Addr) (n c : Nat) (cs : List Int) (hn : cs.length = n) (hrs : Rs W (x.blks r L) p (ints .i64 cs)) (hm : n ≤ 1000) (hnc : n ≤ c) : XF Try.prog W 24 #[.pointer (some ⟨r, 0, none⟩), .int .i64 id, .agg (wEnc ct p n c).toArray] (x.blks r L) (fun v L' => v = .int .i64 (sbE x.ra id cs) ∧ ∃ y : Rm, y.Ok ∧ y.ra = sbA x.ra id ct cs ∧ L' = y.blks r L) := by
  refine xf_enter (args := [_, _, _]) Try.func24 rfl Try.ntmps24 rfl ?_
  have hQ : ∀ r16, SlQ 1 3 (.slice (some ⟨r16, 0, none⟩) 1 1) 1 (ints .i64 [id]) [(r16, Obj.cells (ints .i64 [id]).toArray 3 (0, 0))] := fun r16 => .inr ⟨r16, 0, _, 1, rfl, rfl, Nat.le_refl _, by simp [ints], by simp [ints]⟩
  have hcl := hrs.mono (fun z hz => hz)
  focus
    refine xc_seq ?_
    refine xc_region ?_
    refine xo_ef rfl (ef_box rfl fun r5 => ?_)
    refine xo_rd (rd_assign rfl) rfl ?_
    refine xo_nil ?_
    refine xq_seq ?_
    refine xc_seq ?_
    refine xc_seq ?_
    refine xc_region ?_
    refine xo_rd (rd_move rfl) rfl ?_
    refine xo_rd (rd_eqnil rfl) rfl ?_
    refine xo_nil ?_
    refine xq_seq ?_
    refine xc_condf rfl ?_
    refine xc_skip ?_
    refine xq_seq ?_
    refine xc_seq ?_
    refine xc_seq ?_
    refine xc_region ?_
    refine xo_rd (rd_move rfl) rfl ?_
    refine xo_ef rfl (ef_buildL (T := 35) (len := 1) (s := 1) (cells := (ints .i64 [id]).toArray) rfl (by decide) (by decide) (by kernel_rfl) fun r16 => ?_)
    refine xo_rd (rd_fieldAddr rfl) rfl ?_
    refine xo_rd (rd_load1 rfl (Cl.o1 rfl)) rfl ?_
    refine xo_ef rfl (ef_appendQS [] _ [_] (news := ints .i64 cs) rfl rfl (hQ r16) rfl (hrs.mono (by intro z hz; simp [hz])) (by simp [ints, hn]) (ints_one _ _) (by decide) (by omega) (by omega) fun p2 c2 l2 hO2 hk2 => ?_)
    refine xo_rd (rd_len rfl) rfl ?_
    refine xo_rd (rd_move rfl) rfl ?_
    refine xo_nil ?_
    refine xq_seq ?_
    refine xc_block ?_
  have hks : (id :: cs).length = 1 + n := by rw [List.length_cons, hn]; omega
  have hkl : ints .i64 [id] ++ ints .i64 cs = ints .i64 (id :: cs) := rfl
  rw [hkl] at hO2
  refine xc_perm (L' := (r5, Obj.cells (wEnc ct p n c).toArray 49 (0, 0)) :: (l2 ++ x.blks r L)) List.perm_middle ?_
  have hget := fun k => (xr_get (W := W) (L := (r5, Obj.cells (wEnc ct p n c).toArray 49 (0, 0)) :: l2 ++ L) r x hx k).permK (x.front r (_ :: l2) L)
  refine xc_loopK (ι := Nat) (fun i => i ≤ 1 + n ∧ ((id :: cs).take i).all (fun k => (getId x.ro.ms k).isSome) = true) (fun i => 1 + n - i) (fun i => [(0, .pointer (some ⟨r, 0, none⟩)), (1, .int .i64 id), (5, .pointer (some ⟨r5, 0, none⟩)), (19, .slice p2 (1 + n) c2), (20, .int .i64 (1 + n : Nat)), (21, .int .i64 i)]) 0 ⟨Nat.zero_le _, rfl⟩ (by repeat (first | exact keep_nil | refine keep_cons rfl ?_)) ?_
  rintro i ⟨hi, hall⟩
  by_cases hin : i < 1 + n
  · have hr2 : Rs W ((r5, Obj.cells (wEnc ct p n c).toArray 49 (0, 0)) :: (l2 ++ x.blks r L)) p2 (ints .i64 (id :: cs)) := hO2.rs (by intro z hz; simp [hz])
    obtain ⟨b, o, hpb, hc⟩ := hr2.int (i := i) (by omega)
    subst hpb
    have e1 : (id :: cs)[i]? = some (id :: cs)[i] := List.getElem?_eq_getElem (by omega)
    generalize (id :: cs)[i] = k at *
    have hgk := hget k
    obtain ⟨g, hg⟩ : ∃ g, (getId x.ro.ms k).getD ⟨0, 0, 0, false⟩ = g := ⟨_, rfl⟩
    obtain ⟨s, hs⟩ : ∃ s, (getId x.ro.ms k).isSome = s := ⟨_, rfl⟩
    rw [hg, hs] at hgk
    cases s with
    | true =>
      focus
        refine xc_seq ?_
        refine xc_region ?_
        refine xo_rd (rd_lss rfl rfl) rfl ?_
        refine xo_nil ?_
        refine xq_seq ?_
        refine xc_seq ?_
        refine xc_dec rfl (fun h1 => ?_) (fun h1 => (by exfalso; omega))
        refine xc_skip ?_
        refine xq_seq ?_
        refine xc_seq ?_
        refine xc_block ?_
        refine xc_seq ?_
        refine xc_region ?_
        refine xo_rd (rd_indexAddr rfl rfl (by omega) (by omega)) rfl ?_
        refine xo_rd (rd_load1 rfl hc) rfl ?_
        refine xo_rd (rd_assign rfl) rfl ?_
        refine xo_nil ?_
        refine xq_seq ?_
        refine xc_seq ?_
        refine xc_region ?_
        refine xo_rd (rd_move rfl) rfl ?_
        refine xo_rd (rd_nilCheck rfl) rfl ?_
        refine xo_rd (rd_fieldAddr rfl) rfl ?_
        refine xo_rd (rd_fieldAddr rfl) rfl ?_
        refine xo_rd (rd_load1 rfl (Rm.cl (x := x) (r := r) (L := L) (by intro z hz; simp [hz]) 0 _ rfl)) rfl ?_
        refine xo_rd (rd_move rfl) rfl ?_
        refine xo_ef rfl (ef_call rfl (XF.mono (hgk) ?_))
        rintro v L' ⟨rfl, rfl⟩
        refine xo_rd (rd_move rfl) rfl ?_
        refine xo_rd (rd_extract rfl rfl) rfl ?_
        refine xo_rd (rd_extract rfl rfl) rfl ?_
        refine xo_ef rfl (ef_alloc fun r9 => ?_)
        refine xo_ef rfl (ef_storeB [] _ rfl rfl (by first | rfl | assumption) rfl rfl rfl ?_)
        refine xo_rd (rd_assign rfl) rfl ?_
        refine xo_nil ?_
        refine xq_seq ?_
        refine xc_seq ?_
        refine xc_region ?_
        refine xo_rd (rd_move rfl) rfl ?_
        refine xo_rd (rd_not rfl) rfl ?_
        refine xo_nil ?_
        refine xq_seq ?_
        refine xc_condf rfl ?_
        refine xc_skip ?_
        refine xq_block ?_
        refine xq_seq ?_
        refine xc_region ?_
        refine xo_rd (rd_addn rfl rfl (by omega) (by omega)) rfl ?_
        refine xo_rd (rd_move rfl) rfl ?_
        refine xo_nil ?_
      refine xq_roundK rfl (i + 1) ⟨by omega, ?_⟩ (by omega) (List.sublist_cons_self _ _) (by repeat (first | exact keep_nil | refine keep_cons rfl ?_))
      rw [List.take_add_one, e1, List.all_append, hall]
      simpa using hs
    | false =>
      have hE : sbE x.ra id cs = 130 := by
        unfold sbE
        rw [if_neg]
        intro h
        have := List.all_eq_true.1 h k (List.mem_of_getElem? e1)
        rw [show x.ra.ms = x.ro.ms from rfl, hs] at this; cases this
      focus
        refine xc_seq ?_
        refine xc_region ?_
        refine xo_rd (rd_lss rfl rfl) rfl ?_
        refine xo_nil ?_
        refine xq_seq ?_
        refine xc_seq ?_
        refine xc_dec rfl (fun h1 => ?_) (fun h1 => (by exfalso; omega))
        refine xc_skip ?_
        refine xq_seq ?_
        refine xc_seq ?_
        refine xc_block ?_
        refine xc_seq ?_
        refine xc_region ?_
        refine xo_rd (rd_indexAddr rfl rfl (by omega) (by omega)) rfl ?_
        refine xo_rd (rd_load1 rfl hc) rfl ?_
        refine xo_rd (rd_assign rfl) rfl ?_
        refine xo_nil ?_
        refine xq_seq ?_
        refine xc_seq ?_
        refine xc_region ?_
        refine xo_rd (rd_move rfl) rfl ?_
        refine xo_rd (rd_nilCheck rfl) rfl ?_
        refine xo_rd (rd_fieldAddr rfl) rfl ?_
        refine xo_rd (rd_fieldAddr rfl) rfl ?_
        refine xo_rd (rd_load1 rfl (Rm.cl (x := x) (r := r) (L := L) (by intro z hz; simp [hz]) 0 _ rfl)) rfl ?_
        refine xo_rd (rd_move rfl) rfl ?_
        refine xo_ef rfl (ef_call rfl (XF.mono (hgk) ?_))
        rintro v L' ⟨rfl, rfl⟩
        refine xo_rd (rd_move rfl) rfl ?_
        refine xo_rd (rd_extract rfl rfl) rfl ?_
        refine xo_rd (rd_extract rfl rfl) rfl ?_
        refine xo_ef rfl (ef_alloc fun r9 => ?_)
        refine xo_ef rfl (ef_storeB [] _ rfl rfl (by first | rfl | assumption) rfl rfl rfl ?_)
        refine xo_rd (rd_assign rfl) rfl ?_
        refine xo_nil ?_
        refine xq_seq ?_
        refine xc_seq ?_
        refine xc_region ?_
        refine xo_rd (rd_move rfl) rfl ?_
        refine xo_rd (rd_not rfl) rfl ?_
        refine xo_nil ?_
        refine xq_seq ?_
        refine xc_condt rfl ?_
        refine xc_seq ?_
        refine xc_region ?_
        refine xo_rd (rd_assign rfl) rfl ?_
        refine xo_nil ?_
        refine xq_seq ?_
        refine xc_ret ?_
        refine xq_block_ret ?_
        refine xq_then_ret ?_
        refine xq_then_ret ?_
        refine xq_block_ret ?_
        refine xq_then_ret ?_
      exact xq_sub (((List.sublist_append_right l2 _).trans (List.sublist_cons_self _ _)).trans (List.sublist_cons_self _ _)) (xq_ret1 (.inl rfl) Try.results24 rfl ⟨by rw [hE], x, hx, by rw [sbA, hE]; rfl, rfl⟩)
  · rw [List.take_of_length_le (by omega)] at hall
    focus
      refine xc_seq ?_
      refine xc_region ?_
      refine xo_rd (rd_lss rfl rfl) rfl ?_
      refine xo_nil ?_
      refine xq_seq ?_
      refine xc_seq ?_
      refine xc_dec rfl (fun h1 => (by exfalso; omega)) (fun h1 => ?_)
      refine xc_exit ?_
      refine xq_then_exit ?_
      refine xq_then_exit ?_
      refine xq_block_hit ?_
      refine xq_seq ?_
      refine xc_seq ?_
      refine xc_seq ?_
      refine xc_region ?_
      refine xo_rd (rd_fieldAddr rfl) rfl ?_
      refine xo_rd (rd_load1 rfl (Cl.o0 rfl)) rfl ?_
      refine xo_rd (rd_len rfl) rfl ?_
      refine xo_rd (rd_move rfl) rfl ?_
      refine xo_nil ?_
      refine xq_seq ?_
      refine xc_block ?_
    refine xc_sub (L' := (r5, Obj.cells (wEnc ct p n c).toArray 49 (0, 0)) :: x.blks r L) ((List.sublist_append_right l2 _).cons_cons _) ?_
    clear hget hO2
    refine xc_loopK (ι := Nat) (fun i => i ≤ n ∧ ∀ j, j < i → (decide (cs.getD j 0 = id) || decide (cs.getD j 0 ∈ cs.take j)) = false) (fun i => n - i) (fun i => [(0, .pointer (some ⟨r, 0, none⟩)), (1, .int .i64 id), (5, .pointer (some ⟨r5, 0, none⟩)), (39, .slice p n c), (40, .int .i64 n), (41, .int .i64 i)]) 0 ⟨Nat.zero_le _, fun j h => absurd h (Nat.not_lt_zero _)⟩ (by repeat (first | exact keep_nil | refine keep_cons rfl ?_)) ?_
    rintro i ⟨hi, hno⟩
    by_cases hin : i < n
    · obtain ⟨b, o, hpb, hc⟩ := (hrs.mono (L' := (r5, Obj.cells (wEnc ct p n c).toArray 49 (0, 0)) :: x.blks r L) (by intro z hz; simp [hz])).int (i := i) (by omega)
      have hrs0 := hrs
      subst hpb
      have e1 : cs[i]? = some cs[i] := List.getElem?_eq_getElem (by omega)
      have e2 : cs.getD i 0 = cs[i] := by rw [List.getD_eq_getElem?_getD, e1]; rfl
      generalize cs[i] = k at *
      have hct := xf_containsI (W := W) (L := (r5, Obj.cells (wEnc ct (some ⟨b, o, none⟩) n c).toArray 49 (0, 0)) :: x.blks r L) (some ⟨b, o, none⟩) i c (cs.take i) k (by rw [List.length_take]; omega) (by rw [ints_take]; exact (hrs0.take i).mono (by intro z hz; simp [hz])) (by omega)
      obtain ⟨s, hs⟩ : ∃ s, decide (0 ≤ ixOf (cs.take i) k) = s := ⟨_, rfl⟩
      rw [hs] at hct
      focus
        refine xc_seq ?_
        refine xc_region ?_
        refine xo_rd (rd_lss rfl rfl) rfl ?_
        refine xo_nil ?_
        refine xq_seq ?_
        refine xc_seq ?_
        refine xc_dec rfl (fun hz1 => ?_) (fun hz1 => (by exfalso; omega))
        refine xc_skip ?_
        refine xq_seq ?_
        refine xc_seq ?_
        refine xc_block ?_
        refine xc_seq ?_
        refine xc_region ?_
        refine xo_rd (rd_move rfl) rfl ?_
        refine xo_rd (rd_indexAddr rfl rfl (by omega) (by omega)) rfl ?_
        refine xo_rd (rd_load1 rfl hc) rfl ?_
        refine xo_rd (rd_assign rfl) rfl ?_
        refine xo_rd (rd_assign rfl) rfl ?_
        refine xo_nil ?_
        refine xq_seq ?_
        refine xc_seq ?_
        refine xc_region ?_
        refine xo_rd (rd_move rfl) rfl ?_
        refine xo_rd (rd_move rfl) rfl ?_
        refine xo_rd (rd_eql rfl rfl) rfl ?_
        refine xo_rd (rd_move rfl) rfl ?_
        refine xo_dec 49 rfl (fun hz2 => ?_) (fun hz2 => ?_)
        refine xo_gskip rfl rfl rfl rfl ?_
        refine xo_gskip rfl rfl rfl rfl ?_
        refine xo_gskip rfl rfl rfl rfl ?_
        refine xo_gskip rfl rfl rfl rfl ?_
        refine xo_gskip rfl rfl rfl rfl ?_
        refine xo_gskip rfl rfl rfl rfl ?_
        refine xo_rd (rd_pickt rfl rfl) rfl ?_
        refine xo_nil ?_
        refine xq_seq ?_
        refine xc_condt rfl ?_
        refine xc_seq ?_
        refine xc_region ?_
        refine xo_rd (rd_assign rfl) rfl ?_
        refine xo_nil ?_
        refine xq_seq ?_
        refine xc_ret ?_
        refine xq_block_ret ?_
        refine xq_then_ret ?_
        refine xq_then_ret ?_
        refine xq_block_ret ?_
        refine xq_then_ret ?_
        rotate_left
        refine xo_grd rfl rfl (rd_fieldAddr rfl) rfl ?_
        refine xo_grd rfl rfl (rd_load1 rfl (Cl.o0 rfl)) rfl ?_
        refine xo_grd rfl rfl (rd_move rfl) rfl ?_
        refine xo_grd rfl rfl (rd_cast (v' := .slice (some ⟨b, o, none⟩) i c) (rd_slHi rfl rfl (by omega) (by omega)) (by rw [Int.toNat_natCast])) rfl ?_
        refine xo_grd rfl rfl (rd_move rfl) rfl ?_
        refine xo_gef rfl rfl rfl (ef_call rfl (XF.mono (hct) ?_))
        rintro v L' ⟨rfl, rfl⟩
        refine xo_rd (rd_pickf rfl rfl) rfl ?_
        refine xo_nil ?_
        refine xq_seq ?_
        refine xc_cond rfl (fun hz3 => ?_) (fun hz3 => ?_)
        refine xc_seq ?_
        refine xc_region ?_
        refine xo_rd (rd_assign rfl) rfl ?_
        refine xo_nil ?_
        refine xq_seq ?_
        refine xc_ret ?_
        refine xq_block_ret ?_
        refine xq_then_ret ?_
        refine xq_then_ret ?_
        refine xq_block_ret ?_
        refine xq_then_ret ?_
        rotate_left
        refine xc_skip ?_
        refine xq_block ?_
        refine xq_seq ?_
        refine xc_region ?_
        refine xo_rd (rd_addn rfl rfl (by omega) (by omega)) rfl ?_
        refine xo_rd (rd_move rfl) rfl ?_
        refine xo_nil ?_
        rotate_left
      · have hE : sbE x.ra id cs = 2 := by
          unfold sbE
          rw [show x.ra.ms = x.ro.ms from rfl, if_pos hall, if_pos (by rw [dupI_def]; exact List.any_eq_true.2 ⟨i, List.mem_range.2 (by omega), by rw [e2, hz2, decide_eq_true rfl]; rfl⟩)]
        exact xq_sub (List.sublist_cons_self _ _) (xq_ret1 (.inl rfl) Try.results24 rfl ⟨by rw [hE], x, hx, by rw [sbA, hE]; rfl, rfl⟩)
      · have hE : sbE x.ra id cs = 2 := by
          unfold sbE
          rw [show x.ra.ms = x.ro.ms from rfl, if_pos hall, if_pos (by rw [dupI_def]; exact List.any_eq_true.2 ⟨i, List.mem_range.2 (by omega), by rw [e2, decide_eq_true (ixOf_mem (of_decide_eq_true (hs.trans hz3))), Bool.or_true]⟩)]
        exact xq_sub (List.sublist_cons_self _ _) (xq_ret1 (.inl rfl) Try.results24 rfl ⟨by rw [hE], x, hx, by rw [sbA, hE]; rfl, rfl⟩)
      · refine xq_roundK rfl (i + 1) ⟨by omega, fun j hj => ?_⟩ (by omega) (List.Sublist.refl _) (by repeat (first | exact keep_nil | refine keep_cons rfl ?_))
        rcases Nat.lt_or_ge j i with h | h
        · exact hno j h
        · have hji : j = i := by omega
          rw [hji, e2, decide_eq_false hz2, decide_eq_false (fun hm => by have := mem_ixOf hm; rw [decide_eq_true this] at hs; rw [← hs] at hz3; cases hz3)]; rfl
    · have hE : sbE x.ra id cs = 0 := by
        unfold sbE
        rw [show x.ra.ms = x.ro.ms from rfl, if_pos hall, if_neg]
        rw [dupI_def]
        intro h
        obtain ⟨j, hj, hd⟩ := List.any_eq_true.1 h
        rw [hno j (by have := List.mem_range.1 hj; omega)] at hd; cases hd
      have hidm : id ∈ x.ws.map fun w => w.a.id := by
        rw [hx.ids]
        have h1 := List.all_eq_true.1 hall id List.mem_cons_self
        by_cases hmem : id ∈ x.ro.ms.map Mb.id
        · exact hmem
        · exfalso
          obtain ⟨m, hm⟩ := Option.isSome_iff_exists.1 h1
          have h2 := List.mem_of_find?_eq_some hm
          have h3 := List.find?_some hm
          exact hmem (List.mem_map.2 ⟨m, h2, by simpa using h3⟩)
      obtain ⟨A, w0, B, hws, hw0, hA, hB⟩ := wm_split hidm (hx.ids ▸ hx.ro.fit.ids)
      have hsm : (watV x.ws id).isSome = true := by rw [hws]; unfold watV; rw [watF_split (w := w0) (fun u hu => hw0 ▸ hA u hu), if_pos hw0.symm]; rfl
      have hmp := hx.mp
      subst hn
      unfold Rm.blks
      focus
        refine xc_seq ?_
        refine xc_region ?_
        refine xo_rd (rd_lss rfl rfl) rfl ?_
        refine xo_nil ?_
        refine xq_seq ?_
        refine xc_seq ?_
        refine xc_dec rfl (fun h1 => (by exfalso; omega)) (fun h1 => ?_)
        refine xc_exit ?_
        refine xq_then_exit ?_
        refine xq_then_exit ?_
        refine xq_block_hit ?_
        refine xq_seq ?_
      focus
        refine xc_seq ?_
        refine xc_drawM [0, 1, 2, 4, 0, 0, 32, 127] [0, 1, 2, 4, 0, 0, 32, 127] ([(r5, Obj.cells (wEnc ct p cs.length c).toArray 49 (0, 0)), (r, Obj.cells (rcl x.ro.c x.fr x.mb).toArray 74 (0, 0))]) (by kernel_rfl) (by kernel_rfl) (by kernel_rfl) ?_
        refine xm_take 0 (m' := 1) rfl (by kernel_rfl) (by first | exact Sb.refl | exact Sb.nil | (repeat (first | exact Sb.nil | exact Sb.refl | exact Sb.app0 | apply Sb.keep | apply Sb.keepApp | apply Sb.cons | apply Sb.app))) (rd_move rfl) rfl (by kernel_rfl) ?_
        refine xm_take 1 (m' := 3) rfl (by kernel_rfl) (by first | exact Sb.refl | exact Sb.nil | (repeat (first | exact Sb.nil | exact Sb.refl | exact Sb.app0 | apply Sb.keep | apply Sb.keepApp | apply Sb.cons | apply Sb.app))) (rd_nilCheck rfl) rfl (by kernel_rfl) ?_
        refine xm_take 2 (m' := 7) rfl (by kernel_rfl) (by first | exact Sb.refl | exact Sb.nil | (repeat (first | exact Sb.nil | exact Sb.refl | exact Sb.app0 | apply Sb.keep | apply Sb.keepApp | apply Sb.cons | apply Sb.app))) (rd_fieldAddr rfl) rfl (by kernel_rfl) ?_
        refine xm_take 3 (m' := 15) rfl (by kernel_rfl) (by first | exact Sb.refl | exact Sb.nil | (repeat (first | exact Sb.nil | exact Sb.refl | exact Sb.app0 | apply Sb.keep | apply Sb.keepApp | apply Sb.cons | apply Sb.app))) (rd_load1 rfl (Cl.own (List.mem_cons_of_mem _ List.mem_cons_self) rfl)) rfl (by kernel_rfl) ?_
        refine xm_take 4 (m' := 31) rfl (by kernel_rfl) (by first | exact Sb.refl | exact Sb.nil | (repeat (first | exact Sb.nil | exact Sb.refl | exact Sb.app0 | apply Sb.keep | apply Sb.keepApp | apply Sb.cons | apply Sb.app))) (rd_move rfl) rfl (by kernel_rfl) ?_
        refine xm_take 5 (m' := 63) rfl (by kernel_rfl) (by first | exact Sb.refl | exact Sb.nil | (repeat (first | exact Sb.nil | exact Sb.refl | exact Sb.app0 | apply Sb.keep | apply Sb.keepApp | apply Sb.cons | apply Sb.app))) (rd_loadB rfl Kn.o0 (by rfl)) rfl (by kernel_rfl) ?_
        refine xm_one 6 (m' := 127) rfl (by kernel_rfl) rfl (by kernel_rfl) (ef_call rfl (XF.mono (xf_copied ct p cs.length c cs rfl (hrs.mono fun z hz => List.mem_cons_of_mem _ hz) (by omega)) ?_))
        rintro v L' ⟨q, k, l3, rfl, hO3, rfl⟩
        refine xmx_seg [_, _, _] l3 _ ?_
        refine ⟨(by first | exact Sb.refl | exact Sb.nil | (repeat (first | exact Sb.nil | exact Sb.refl | exact Sb.app0 | apply Sb.keep | apply Sb.keepApp | apply Sb.cons | apply Sb.app))), ?_⟩
        refine xm_one 7 (m' := 255) rfl (by kernel_rfl) rfl (by kernel_rfl) (ef_mapUpdate [_, _] _ hmp rfl rfl rfl rfl fun mo2 hmp2 => ?_)
        refine ⟨(by first | exact Sb.refl | exact Sb.nil | (repeat (first | exact Sb.nil | exact Sb.refl | exact Sb.app0 | apply Sb.keep | apply Sb.keepApp | apply Sb.cons | apply Sb.app))), ?_⟩
        refine xm_done (by kernel_rfl) ?_
        refine xq_seq ?_
        refine xc_seq ?_
        refine xc_region ?_
        refine xo_rd (rd_assign rfl) rfl ?_
        refine xo_nil ?_
        refine xq_seq ?_
        refine xc_ret ?_
      have hyo : (Rm.mk x.ro x.fr x.fm x.mb mo2 (A ++ ⟨⟨id, ct, cs⟩, q, k, l3⟩ :: B)).Ok := by
        have hmp3 : MpIs .i64 mo2 (watV (A ++ (Wm.mk ⟨id, ct, cs⟩ q k l3) :: B)) (A ++ (Wm.mk ⟨id, ct, cs⟩ q k l3) :: B).length := hmp2.cong (fun z => by rw [hws, watV_swap (w := w0) (u := Wm.mk ⟨id, ct, cs⟩ q k l3) hw0.symm (fun v hv => hw0 ▸ hA v hv) z, hw0]; rfl) (by rw [hsm, if_pos rfl, hws, List.length_append, List.length_append, List.length_cons, List.length_cons])
        refine ⟨hx.ro, hx.fm, hmp3, fun w hw => ?_, ?_, hx.rg⟩
        · dsimp only at hw
          rcases List.mem_append.1 hw with h | h
          · exact hx.wo w (by rw [hws]; exact List.mem_append_left _ h)
          · rcases List.mem_cons.1 h with h | h
            · rw [h]; exact ⟨hO3.q, by dsimp only; omega⟩
            · exact hx.wo w (by rw [hws]; exact List.mem_append_right _ (List.mem_cons_of_mem _ h))
        · have := hx.ids
          rw [hws] at this
          dsimp only
          rw [← this, List.map_append, List.map_append, List.map_cons, List.map_cons, hw0]
      have hra : (Rm.mk x.ro x.fr x.fm x.mb mo2 (A ++ ⟨⟨id, ct, cs⟩, q, k, l3⟩ :: B)).ra = sbA x.ra id ct cs := by
        rw [sbA, hE, if_pos rfl]
        unfold Rm.ra Rm.was
        dsimp only
        rw [was_swap (w := w0) (u := Wm.mk ⟨id, ct, cs⟩ q k l3) hw0.symm (fun v hv => hw0 ▸ hA v hv) (fun v hv => hw0 ▸ hB v hv), hws]
      all_goals
        rw [hws, wlb_split]
        exact xq_sub (sub_sb l3 (wlb A) w0.l (wlb B) _) (xq_perm (perm_sb l3 (wlb A) (wlb B) _) (xq_ret1 (.inl rfl) Try.results24 rfl ⟨by rw [hE], _, hyo, hra, by dsimp only; rw [wlb_split]⟩))
end Go.Proofs.Ytmdeajdaeihniaa.X
