/-
  Texts of my own, put together: walks and laws for this seat. No condition.
-/
import Derived.Test.YtmdeajdaeihniaaGreatN12
/-
  RoomPlays: whatever is called, a room answers and stands as the reference's does: a walk of my own.
-/
namespace Go.Proofs.YtmdeajdaeihniaaGreat.X
open Go Go.RowKit
set_option linter.unusedVariables false
set_option linter.unusedSimpArgs false
/-- Where the law stands. -/
structure PlS where
  i : Nat
  x : Rm
  y : Rr
  now : Int
  g : List Blk
theorem perm_in (r : Nat) (x : Rm) (A N g R : List Blk) : (N ++ (A ++ x.blks r (g ++ R))).Perm (A ++ x.blks r ((N ++ g) ++ R)) := by
  rw [List.append_assoc]
  exact ((List.perm_append_comm_assoc N A _)).trans ((x.front r N (g ++ R)).append_left A)
set_option maxHeartbeats 6400000 in
theorem plays1 {W : World} (m q s : Int) (h0 : 0 ≤ s) (p : Option Addr) (n c : Nat) (xs : List Ac) (hx : xs.length = n) (hr : Rs W [] p (xs.flatMap Ac.enc)) (hE : ∀ x, x ∈ xs → Rs W [] x.p (ints .i64 x.cs) ∧ x.cs.length ≤ x.c ∧ 0 ≤ x.by' ∧ x.by' ≤ 255) :
    XF Tryz.prog W 3 #[.agg (cfgE m q s).toArray, .slice p n c] [] (fun v L' => v = .bool true) := by
  refine xf_enter (args := [_, _]) Tryz.func3 rfl Tryz.ntmps3 rfl ?_
  have hfew := fun L' => xf_few (W := W) (L := L') p n c xs hx (hr.mono fun z h => by cases h) 60 (by decide)
  focus
    refine xc_seq ?_
    refine xc_region ?_
    refine xo_ef rfl (ef_box rfl fun r2 => ?_)
    refine xo_rd (rd_assign rfl) rfl ?_
    refine xo_nil ?_
    refine xq_seq ?_
    refine xc_seq ?_
    refine xc_seq ?_
    refine xc_region ?_
    refine xo_rd (rd_move rfl) rfl ?_
    refine xo_ef rfl (ef_call rfl (XF.mono (hfew _) ?_))
    rintro v L' ⟨bf, rfl, hbf, rfl⟩
    refine xo_rd (rd_not rfl) rfl ?_
    refine xo_nil ?_
    refine xq_seq ?_
    refine xc_cond rfl (fun hz1 => ?_) (fun hz1 => ?_)
    refine xc_seq ?_
    refine xc_region ?_
    refine xo_ef rfl (ef_call rfl (XF.mono (xf_works) ?_))
    rintro v L' ⟨rfl, rfl⟩
    refine xo_rd (rd_assign rfl) rfl ?_
    refine xo_nil ?_
    refine xq_seq ?_
    refine xc_ret ?_
    refine xq_then_ret ?_
    rotate_left
    refine xc_skip ?_
    refine xq_seq ?_
    rotate_left
  · exact xq_ret1 (.inl rfl) Tryz.results3 rfl rfl
  have hsm := hbf (by simpa using hz1)
  clear hbf hz1 hfew
  have hn60 : n ≤ 60 := by have := hsm.1; omega
  by_cases hok : (0 ≤ m ∧ m ≤ 32) ∧ (0 ≤ q ∧ q ≤ 32) ∧ 1 ≤ s
  case neg =>
    have e1 := fun L' => xf_RNewE (W := W) (L := L') m q s hok
    have e2 := fun L' => xf_r2NewE (W := W) (L := L') m q s h0 hok
    focus
      refine xc_seq ?_
      refine xc_region ?_
      refine xo_rd (rd_loadB rfl Kn.o0 (by rfl)) rfl ?_
      refine xo_ef rfl (ef_call rfl (XF.mono (e1 _) ?_))
      rintro v L' ⟨rfl, rfl⟩
      refine xo_rd (rd_move rfl) rfl ?_
      refine xo_rd (rd_extract rfl rfl) rfl ?_
      refine xo_rd (rd_extract rfl rfl) rfl ?_
      refine xo_rd (rd_assign rfl) rfl ?_
      refine xo_rd (rd_assign rfl) rfl ?_
      refine xo_nil ?_
      refine xq_seq ?_
      refine xc_seq ?_
      refine xc_region ?_
      refine xo_rd (rd_fieldAddr rfl) rfl ?_
      refine xo_rd (rd_load1 rfl (Cl.o0 rfl)) rfl ?_
      refine xo_rd (rd_fieldAddr rfl) rfl ?_
      refine xo_rd (rd_load1 rfl (Cl.o0 rfl)) rfl ?_
      refine xo_rd (rd_fieldAddr rfl) rfl ?_
      refine xo_rd (rd_load1 rfl (Cl.o0 rfl)) rfl ?_
      refine xo_ef rfl (ef_call rfl (XF.mono (e2 _) ?_))
      rintro v L' ⟨ws, rfl, hwl, hw1, rfl⟩
      refine xo_rd (rd_move rfl) rfl ?_
      refine xo_rd (rd_extract rfl rfl) rfl ?_
      refine xo_rd (rd_extract rfl rfl) rfl ?_
      refine xo_ef rfl (ef_alloc fun r7 => ?_)
      refine xo_ef rfl (ef_storeB [] _ rfl rfl hw1 hwl rfl rfl ?_)
      refine xo_rd (rd_assign rfl) rfl ?_
      refine xo_nil ?_
      refine xq_seq ?_
      refine xc_seq ?_
      refine xc_seq ?_
      refine xc_region ?_
      refine xo_rd (rd_move rfl) rfl ?_
      refine xo_rd (rd_move rfl) rfl ?_
      refine xo_rd (rd_neq rfl rfl) rfl ?_
      refine xo_rd (rd_move rfl) rfl ?_
      refine xo_grd rfl rfl (rd_move rfl) rfl ?_
      refine xo_grd rfl rfl (rd_eql rfl rfl) rfl ?_
      refine xo_grd rfl rfl (rd_move rfl) rfl ?_
      refine xo_grd rfl rfl (rd_nenil rfl) rfl ?_
      refine xo_grd rfl rfl (rd_neb rfl rfl) rfl ?_
      refine xo_rd (rd_pickf rfl rfl) rfl ?_
      refine xo_nil ?_
      refine xq_seq ?_
      refine xc_condf rfl ?_
      refine xc_skip ?_
      refine xq_seq ?_
      refine xc_seq ?_
      refine xc_seq ?_
      refine xc_region ?_
      refine xo_rd (rd_move rfl) rfl ?_
      refine xo_rd (rd_neq rfl rfl) rfl ?_
      refine xo_nil ?_
      refine xq_seq ?_
      refine xc_condt rfl ?_
      refine xc_seq ?_
      refine xc_region ?_
      refine xo_ef rfl (ef_call rfl (XF.mono (xf_works) ?_))
      rintro v L' ⟨rfl, rfl⟩
      refine xo_rd (rd_assign rfl) rfl ?_
      refine xo_nil ?_
      refine xq_seq ?_
      refine xc_ret ?_
      refine xq_then_ret ?_
    exact xq_ret1 (.inl rfl) Tryz.results3 rfl rfl
  have e1 := fun L' => xf_RNew (W := W) (L := L') m q s hok.1 hok.2.1 hok.2.2
  have e2 := fun L' => xf_r2New (W := W) (L := L') m q s hok.1 hok.2.1 hok.2.2
  focus
    refine xc_seq ?_
    refine xc_region ?_
    refine xo_rd (rd_loadB rfl Kn.o0 (by rfl)) rfl ?_
    refine xo_ef rfl (ef_call rfl (XF.mono (e1 _) ?_))
    rintro v L' ⟨r, rfl, x0, hx0, hxa0, rfl⟩
    refine xo_rd (rd_move rfl) rfl ?_
    refine xo_rd (rd_extract rfl rfl) rfl ?_
    refine xo_rd (rd_extract rfl rfl) rfl ?_
    refine xo_rd (rd_assign rfl) rfl ?_
    refine xo_rd (rd_assign rfl) rfl ?_
    refine xo_nil ?_
    refine xq_seq ?_
    refine xc_seq ?_
    refine xc_region ?_
    refine xo_rd (rd_fieldAddr rfl) rfl ?_
    refine xo_rd (rd_load1 rfl (Cl.own (i := 0) ((Rm.sub r x0 _).subset List.mem_cons_self) rfl)) rfl ?_
    refine xo_rd (rd_fieldAddr rfl) rfl ?_
    refine xo_rd (rd_load1 rfl (Cl.own (i := 1) ((Rm.sub r x0 _).subset List.mem_cons_self) rfl)) rfl ?_
    refine xo_rd (rd_fieldAddr rfl) rfl ?_
    refine xo_rd (rd_load1 rfl (Cl.own (i := 2) ((Rm.sub r x0 _).subset List.mem_cons_self) rfl)) rfl ?_
    refine xo_ef rfl (ef_call rfl (XF.mono (e2 _) ?_))
    rintro v L' ⟨rfl, rfl⟩
    refine xo_rd (rd_move rfl) rfl ?_
    refine xo_rd (rd_extract rfl rfl) rfl ?_
    refine xo_rd (rd_extract rfl rfl) rfl ?_
    refine xo_ef rfl (ef_alloc fun r7 => ?_)
    refine xo_ef rfl (ef_storeB [] _ rfl rfl (by first | rfl | assumption) rfl rfl rfl ?_)
    refine xo_rd (rd_assign rfl) rfl ?_
    refine xo_nil ?_
    refine xq_seq ?_
    refine xc_seq ?_
    refine xc_seq ?_
    refine xc_region ?_
    refine xo_rd (rd_move rfl) rfl ?_
    refine xo_rd (rd_move rfl) rfl ?_
    refine xo_rd (rd_neq rfl rfl) rfl ?_
    refine xo_rd (rd_move rfl) rfl ?_
    refine xo_grd rfl rfl (rd_move rfl) rfl ?_
    refine xo_grd rfl rfl (rd_eql rfl rfl) rfl ?_
    refine xo_grd rfl rfl (rd_move rfl) rfl ?_
    refine xo_grd rfl rfl (rd_nenil rfl) rfl ?_
    refine xo_grd rfl rfl (rd_neb rfl rfl) rfl ?_
    refine xo_rd (rd_pickf rfl rfl) rfl ?_
    refine xo_nil ?_
    refine xq_seq ?_
    refine xc_condf rfl ?_
    refine xc_skip ?_
    refine xq_seq ?_
    refine xc_seq ?_
    refine xc_seq ?_
    refine xc_region ?_
    refine xo_rd (rd_move rfl) rfl ?_
    refine xo_rd (rd_neq rfl rfl) rfl ?_
    refine xo_nil ?_
    refine xq_seq ?_
    refine xc_condf rfl ?_
    refine xc_skip ?_
    refine xq_seq ?_
    refine xc_seq ?_
    refine xc_region ?_
    refine xo_rd (rd_assign rfl) rfl ?_
    refine xo_nil ?_
    refine xq_seq ?_
    refine xc_seq ?_
    refine xc_seq ?_
    refine xc_region ?_
    refine xo_rd (rd_assign rfl) rfl ?_
    refine xo_nil ?_
    refine xq_seq ?_
    refine xc_block ?_
  refine xc_loopI (ι := PlS) (fun s => s.i ≤ n ∧ s.x.Ok ∧ Inv m s.x.ra s.i ∧ F2 s.x.ra.fl ∧ s.y.ra = s.x.ra ∧ s.y.At W s.g ∧ 0 ≤ s.now ∧ s.now ≤ 255 * s.i) (fun s => n - s.i) (fun z => (r7, Obj.cells z.y.enc.toArray 45 (0, 0)) :: z.x.blks r (z.g ++ [(r2, Obj.cells (cfgE m q s).toArray 24 (0, 0))])) (fun s => [(1, .slice p n c), (5, .pointer (some ⟨r, 0, none⟩)), (7, .pointer (some ⟨r7, 0, none⟩)), (9, .int .u64 s.now), (10, .int .i64 s.i)]) ⟨0, x0, newRr m q s, 0, []⟩ ⟨Nat.zero_le _, hx0, hxa0 ▸ inv_newM m q s hok.1, (by dsimp only; rw [hxa0]; exact f2_new q s), (by dsimp only; rw [hxa0]; rfl), newRr_at m q s, Int.le_refl _, (by show (0 : Int) ≤ 255 * ((0 : Nat) : Int); decide)⟩ rfl (by repeat (first | exact keep_nil | refine keep_cons rfl ?_)) ?_
  clear hx0 hxa0 e1 e2
  rintro ⟨i, x, y, now, g⟩ ⟨hi, hx0, hinv, hf2, hra, hyat, hnow0, hnow⟩
  dsimp only at hi hx0 hinv hf2 hra hyat hnow0 hnow ⊢
  by_cases hin : i < n
  case neg =>
    focus
      refine xc_seq ?_
      refine xc_seq ?_
      refine xc_region ?_
      refine xo_rd (rd_move rfl) rfl ?_
      refine xo_rd (rd_move rfl) rfl ?_
      refine xo_rd (rd_len rfl) rfl ?_
      refine xo_rd (rd_lss rfl rfl) rfl ?_
      refine xo_nil ?_
      refine xq_seq ?_
      refine xc_dec rfl (fun h1 => (by exfalso; omega)) (fun h1 => ?_)
      refine xc_exit ?_
      refine xq_then_exit ?_
      refine xq_then_exit ?_
      refine xq_block_hit ?_
      refine xq_seq ?_
      refine xc_seq ?_
      refine xc_region ?_
      refine xo_ef rfl (ef_call rfl (XF.mono (xf_works) ?_))
      rintro v L' ⟨rfl, rfl⟩
      refine xo_rd (rd_assign rfl) rfl ?_
      refine xo_nil ?_
      refine xq_seq ?_
      refine xc_ret ?_
    exact xq_ret1 (.inl rfl) Tryz.results3 rfl rfl
  obtain ⟨b, o, hp, hc⟩ := hr.rows Ac.len (by decide) (by omega)
  subst hp
  have hca := hc i (by omega)
  obtain ⟨hcs, hcc, hby⟩ := hE xs[i] (List.getElem_mem _)
  have hcl := hsm.2 xs[i] (List.getElem_mem _)
  generalize xs[i] = a at *
  have hcA : ∀ L' (j : Nat) (u : Value), a.enc[j]? = some u → Cl W L' b (o + (i : Int).toNat * 10 + j) u := fun L' j u hj => (hca j u hj).mono fun z h => by cases h
  obtain ⟨k, hk⟩ : ∃ k, (a.d.tmod 9 + 9) % 9 = k := ⟨_, rfl⟩
  have hdid := fun L' (h : ∀ z, z ∈ g → z ∈ L') => xf_did (W := W) (L := L') g h y hyat a (now + a.by') k hk (hra ▸ hinv) (hra ▸ hf2) (by omega) (by omega) (hcs.mono fun z h => by cases h) (by omega) hcc
  have hdo := fun L' => xf_does (W := W) (L := L') r x hx0 a (now + a.by') k hk (by have := hinv.fi.gs; have h3 : x.ra.fl.gs = x.fm.a.gs := rfl; rw [h3] at this; omega) hinv.fi.he (by omega) (hcs.mono fun z h => by cases h) (by omega)
  rw [hra] at hdid
  have hinv2 := hinv.done k a (now + a.by') (by omega)
  have hf22 := hf2.done k a (now + a.by')
  generalize doE k x.ra a (now + a.by') = e at *
  generalize doA k x.ra a (now + a.by') = z at *
  focus
    refine xc_seq ?_
    refine xc_seq ?_
    refine xc_region ?_
    refine xo_rd (rd_move rfl) rfl ?_
    refine xo_rd (rd_move rfl) rfl ?_
    refine xo_rd (rd_len rfl) rfl ?_
    refine xo_rd (rd_lss rfl rfl) rfl ?_
    refine xo_nil ?_
    refine xq_seq ?_
    refine xc_dec rfl (fun h1 => ?_) (fun h1 => (by exfalso; omega))
    refine xc_skip ?_
    refine xq_seq ?_
    refine xc_seq ?_
    refine xc_block ?_
    refine xc_seq ?_
    refine xc_region ?_
    refine xo_rd (rd_move rfl) rfl ?_
    refine xo_rd (rd_move rfl) rfl ?_
    refine xo_rd (rd_move rfl) rfl ?_
    refine xo_rd (rd_indexAddr rfl rfl (by omega) (by omega)) rfl ?_
    refine xo_rd (rd_fieldAddr rfl) rfl ?_
    refine xo_rd (rd_load1 rfl (hcA _ 9 _ rfl)) rfl ?_
    refine xo_rd (rd_convn rfl (by omega) (by omega)) rfl ?_
    refine xo_rd (rd_addn rfl rfl (by omega) (by omega)) rfl ?_
    refine xo_rd (rd_assign rfl) rfl ?_
    refine xo_nil ?_
    refine xq_seq ?_
  generalize hR2 : [(r2, Obj.cells (cfgE m q s).toArray 24 (0, 0))] = R2
  have hgm : ∀ (L' : List Blk), (∀ z, z ∈ x.blks r (g ++ R2) → z ∈ L') → ∀ z, z ∈ g → z ∈ L' := fun L' h z hz => h z ((Rm.sub r x _).subset (List.mem_append_left _ hz))
  have hdp : ∀ A : List Blk, XF Tryz.prog W 9 #[.agg y.enc.toArray, .agg a.enc.toArray, .int .u64 (now + a.by')] (A ++ x.blks r (g ++ R2)) (fun v L' => ∃ y2 N, v = .tuple #[.agg (Rr.enc y2).toArray, .int .i64 e] ∧ y2.ra = z ∧ y2.At W (N ++ g) ∧ L' = A ++ x.blks r ((N ++ g) ++ R2)) := fun A =>
    (hdid _ (hgm _ fun z hz => List.mem_append_right _ hz)).mapK fun v L' ⟨y2, N, h1, h2, h3, h4⟩ => ⟨_, h4 ▸ perm_in r x A N g R2, y2, N, h1, h2, h3, rfl⟩
  refine xc_join (ι := (Nat × Rr) × List Blk) (fun s => s.1.2.ra = z ∧ s.1.2.At W (s.2 ++ g)) (fun s => (s.1.1, Obj.cells s.1.2.enc.toArray 45 (0, 0)) :: (r7, Obj.cells y.enc.toArray 45 (0, 0)) :: x.blks r ((s.2 ++ g) ++ R2)) (fun s => [(1, .slice (some ⟨b, o, none⟩) n c), (5, .pointer (some ⟨r, 0, none⟩)), (7, .pointer (some ⟨r7, 0, none⟩)), (9, .int .u64 (now + a.by')), (10, .int .i64 i), (11, .pointer (some ⟨s.1.1, 0, none⟩)), (12, .int .i64 e)]) ?_ ?_
  · skip
    focus
      refine xc_drawM [0, 0, 0, 6, 8, 0, 49, 64, 128, 128, 0, 1535, 4095] [0, 0, 0, 6, 8, 0, 49, 64, 128, 128, 0, 1535, 4095] [] (by kernel_rfl) (by kernel_rfl) (by kernel_rfl) ?_
      refine xm_take 1 (m' := 2) rfl (by kernel_rfl) Sb.a (rd_move rfl) rfl (by kernel_rfl) ?_
      refine xm_take 2 (m' := 6) rfl (by kernel_rfl) Sb.a (rd_move rfl) rfl (by kernel_rfl) ?_
      refine xm_take 3 (m' := 14) rfl (by kernel_rfl) Sb.a (rd_indexAddr rfl rfl (by omega) (by omega)) rfl (by kernel_rfl) ?_
      refine xm_take 4 (m' := 30) rfl (by kernel_rfl) Sb.a (rd_loadA (vs := a.enc) rfl rfl (hcA _)) rfl (by kernel_rfl) ?_
      refine xm_take 5 (m' := 62) rfl (by kernel_rfl) Sb.a (rd_move rfl) rfl (by kernel_rfl) ?_
      refine xm_two 0 10 (mi := 63) (mk := 1086) rfl rfl (by kernel_rfl) rfl rfl (by kernel_rfl) (by kernel_rfl) (ef_rd (rd_loadB rfl Kn.o0 (by rfl)) ⟨Sb.a, ?_⟩) (ef_alloc fun r11 => ⟨Sb.a, ?_⟩)
      refine xm_two 6 10 (mi := 127) (mk := 1087) rfl rfl (by kernel_rfl) rfl rfl (by kernel_rfl) (by kernel_rfl) (ef_call rfl (XF.mono (hdp [_]) ?_)) (ef_alloc fun r11 => ⟨Sb.a, ?_⟩)
      rotate_left
      rotate_right
      rintro v L' ⟨y2, N, rfl, hya2, hyat2, rfl⟩
      refine ⟨Sb.a, ?_⟩
      refine xm_take 7 (m' := 255) rfl (by kernel_rfl) Sb.a (rd_move rfl) rfl (by kernel_rfl) ?_
      refine xm_take 8 (m' := 511) rfl (by kernel_rfl) Sb.a (rd_extract rfl rfl) rfl (by kernel_rfl) ?_
      refine xm_take 9 (m' := 1023) rfl (by kernel_rfl) Sb.a (rd_extract rfl rfl) rfl (by kernel_rfl) ?_
      refine xm_one 10 (m' := 2047) rfl (by kernel_rfl) rfl (by kernel_rfl) (ef_alloc fun r11 => ?_)
      refine ⟨Sb.a, ?_⟩
      refine xm_one 11 (m' := 4095) rfl (by kernel_rfl) rfl (by kernel_rfl) (ef_storeB [] _ rfl rfl (by first | rfl | assumption) rfl rfl rfl ?_)
      refine ⟨Sb.a, ?_⟩
      refine xm_take 12 (m' := 8191) rfl (by kernel_rfl) Sb.a (rd_assign rfl) rfl (by kernel_rfl) ?_
      refine xm_done (by kernel_rfl) ?_
      rotate_left
      refine xm_one 6 (m' := 1151) rfl (by kernel_rfl) rfl (by kernel_rfl) (ef_call rfl (XF.mono (hdp [_, _]) ?_))
      rintro v L' ⟨y2, N, rfl, hya2, hyat2, rfl⟩
      refine ⟨Sb.a, ?_⟩
      refine xm_take 7 (m' := 1279) rfl (by kernel_rfl) Sb.a (rd_move rfl) rfl (by kernel_rfl) ?_
      refine xm_take 8 (m' := 1535) rfl (by kernel_rfl) Sb.a (rd_extract rfl rfl) rfl (by kernel_rfl) ?_
      refine xm_take 9 (m' := 2047) rfl (by kernel_rfl) Sb.a (rd_extract rfl rfl) rfl (by kernel_rfl) ?_
      refine xm_one 11 (m' := 4095) rfl (by kernel_rfl) rfl (by kernel_rfl) (ef_storeB [] _ rfl rfl (by first | rfl | assumption) rfl rfl rfl ?_)
      refine ⟨Sb.a, ?_⟩
      refine xm_take 12 (m' := 8191) rfl (by kernel_rfl) Sb.a (rd_assign rfl) rfl (by kernel_rfl) ?_
      refine xm_done (by kernel_rfl) ?_
      rotate_left
      refine xm_one 0 (m' := 1087) rfl (by kernel_rfl) rfl (by kernel_rfl) (ef_rd (rd_loadB rfl Kn.o1 (by rfl)) ?_)
      refine ⟨Sb.a, ?_⟩
      refine xm_one 6 (m' := 1151) rfl (by kernel_rfl) rfl (by kernel_rfl) (ef_call rfl (XF.mono (hdp [_, _]) ?_))
      rintro v L' ⟨y2, N, rfl, hya2, hyat2, rfl⟩
      refine ⟨Sb.a, ?_⟩
      refine xm_take 7 (m' := 1279) rfl (by kernel_rfl) Sb.a (rd_move rfl) rfl (by kernel_rfl) ?_
      refine xm_take 8 (m' := 1535) rfl (by kernel_rfl) Sb.a (rd_extract rfl rfl) rfl (by kernel_rfl) ?_
      refine xm_take 9 (m' := 2047) rfl (by kernel_rfl) Sb.a (rd_extract rfl rfl) rfl (by kernel_rfl) ?_
      refine xm_one 11 (m' := 4095) rfl (by kernel_rfl) rfl (by kernel_rfl) (ef_storeB [] _ rfl rfl (by first | rfl | assumption) rfl rfl rfl ?_)
      refine ⟨Sb.a, ?_⟩
      refine xm_take 12 (m' := 8191) rfl (by kernel_rfl) Sb.a (rd_assign rfl) rfl (by kernel_rfl) ?_
      refine xm_done (by kernel_rfl) ?_
      rotate_left
    all_goals exact xq_joined ((_, y2), N) ⟨hya2, hyat2⟩ rfl (by repeat (first | exact keep_nil | refine keep_cons rfl ?_))
  rintro ⟨⟨r11, y2⟩, N⟩ ⟨hya2, hyat2⟩
  dsimp only at hya2 hyat2 ⊢
  focus
    refine xc_seq ?_
    refine xc_region ?_
    refine xo_rd (rd_loadB rfl Kn.o0 (by rfl)) rfl ?_
    refine xo_ef rfl (ef_storeB [_] _ rfl rfl (by first | rfl | assumption) rfl rfl rfl ?_)
    refine xo_nil ?_
    refine xq_seq ?_
  have hisz := fun (x2 : Rm) (hx2 : x2.Ok) (hz : x2.ra = z) (d t : Int) => xf_is (W := W) (L := [(r11, Obj.cells y2.enc.toArray 45 (0, 0)), (r7, Obj.cells y2.enc.toArray 45 (0, 0))] ++ ((N ++ g) ++ R2)) r x2 hx2 y2 (hyat2.mono fun u hu => List.mem_append_right [_, _] (List.mem_append_left _ hu)) (hya2.trans hz.symm) (hz ▸ hinv2) (hz ▸ hf22) d t
  have hr7 : ∀ x2 : Rm, (r7, Obj.cells y2.enc.toArray 45 (0, 0)) ∈ x2.blks r ([(r11, Obj.cells y2.enc.toArray 45 (0, 0)), (r7, Obj.cells y2.enc.toArray 45 (0, 0))] ++ ((N ++ g) ++ R2)) := fun x2 => (Rm.sub r x2 _).subset (List.mem_cons_of_mem _ List.mem_cons_self)
  focus
    refine xc_seq ?_
    refine xc_drawM [0, 0, 0, 6, 8, 0, 49, 0, 192, 320, 512, 512, 512, 512, 12800, 16896, 33280, 512, 512, 393728, 524800, 1049088, 2097664, 4263424, 8389120, 16777728, 41943040, 67108864, 67108864, 67108864, 67108864, 1677721600, 2214592512, 4362076160, 67108864, 67108864, 51606716416, 68786585600, 137506062336, 274945015808, 558815510528, 1099578736640, 2199090364416] [0, 0, 0, 6, 8, 0, 49, 0, 192, 320, 512, 512, 512, 512, 12800, 16896, 33280, 512, 512, 393728, 524800, 1049088, 2097664, 4263424, 8389120, 16777728, 41943040, 67108864, 67108864, 67108864, 67108864, 1677721600, 2214592512, 4362076160, 67108864, 67108864, 51606716416, 68786585600, 137506062336, 274945015808, 558815510528, 1099578736640, 2199090364416] [] (by kernel_rfl) (by kernel_rfl) (by kernel_rfl) ?_
    refine xm_take 0 (m' := 1) rfl (by kernel_rfl) Sb.a (rd_move rfl) rfl (by kernel_rfl) ?_
    refine xm_take 1 (m' := 3) rfl (by kernel_rfl) Sb.a (rd_move rfl) rfl (by kernel_rfl) ?_
    refine xm_take 2 (m' := 7) rfl (by kernel_rfl) Sb.a (rd_move rfl) rfl (by kernel_rfl) ?_
    refine xm_take 3 (m' := 15) rfl (by kernel_rfl) Sb.a (rd_indexAddr rfl rfl (by omega) (by omega)) rfl (by kernel_rfl) ?_
    refine xm_take 4 (m' := 31) rfl (by kernel_rfl) Sb.a (rd_loadA (vs := a.enc) rfl rfl (hcA _)) rfl (by kernel_rfl) ?_
    refine xm_take 5 (m' := 63) rfl (by kernel_rfl) Sb.a (rd_move rfl) rfl (by kernel_rfl) ?_
    refine xm_take 7 (m' := 191) rfl (by kernel_rfl) Sb.a (rd_move rfl) rfl (by kernel_rfl) ?_
    refine xm_one 6 (m' := 255) rfl (by kernel_rfl) rfl (by kernel_rfl) (ef_call rfl (XF.mono ((hdo ([_, _] ++ ((N ++ g) ++ R2))).perm (x.front r [_, _] ((N ++ g) ++ R2))) ?_))
    rintro v L' ⟨rfl, x2, hx2, hxa2, rfl⟩
    refine ⟨Sb.a, ?_⟩
    refine xm_take 8 (m' := 511) rfl (by kernel_rfl) Sb.a (rd_neq rfl rfl) rfl (by kernel_rfl) ?_
    refine xm_take 9 (m' := 1023) rfl (by kernel_rfl) Sb.a (rd_move rfl) rfl (by kernel_rfl) ?_
    refine xm_ndec 79 rfl (fun h => absurd rfl h) (fun _ => ?_)
    refine xm_gtake 10 (m' := 2047) rfl (by kernel_rfl) Sb.a rfl rfl (rd_move rfl) rfl (by kernel_rfl) ?_
    refine xm_gtake 12 (m' := 6143) rfl (by kernel_rfl) Sb.a rfl rfl (rd_move rfl) rfl (by kernel_rfl) ?_
    refine xm_gtake 13 (m' := 14335) rfl (by kernel_rfl) Sb.a rfl rfl (rd_move rfl) rfl (by kernel_rfl) ?_
    refine xm_gtake 14 (m' := 30719) rfl (by kernel_rfl) Sb.a rfl rfl (rd_indexAddr rfl rfl (by omega) (by omega)) rfl (by kernel_rfl) ?_
    refine xm_gtake 15 (m' := 63487) rfl (by kernel_rfl) Sb.a rfl rfl (rd_fieldAddr rfl) rfl (by kernel_rfl) ?_
    refine xm_gtake 16 (m' := 129023) rfl (by kernel_rfl) Sb.a rfl rfl (rd_load1 rfl (hcA _ 5 _ rfl)) rfl (by kernel_rfl) ?_
    refine xm_gtake 17 (m' := 260095) rfl (by kernel_rfl) Sb.a rfl rfl (rd_move rfl) rfl (by kernel_rfl) ?_
    refine xm_gtake 18 (m' := 522239) rfl (by kernel_rfl) Sb.a rfl rfl (rd_move rfl) rfl (by kernel_rfl) ?_
    refine xm_gtake 19 (m' := 1046527) rfl (by kernel_rfl) Sb.a rfl rfl (rd_indexAddr rfl rfl (by omega) (by omega)) rfl (by kernel_rfl) ?_
    refine xm_gtake 20 (m' := 2095103) rfl (by kernel_rfl) Sb.a rfl rfl (rd_fieldAddr rfl) rfl (by kernel_rfl) ?_
    refine xm_gtake 21 (m' := 4192255) rfl (by kernel_rfl) Sb.a rfl rfl (rd_fieldAddr rfl) rfl (by kernel_rfl) ?_
    refine xm_gtake 22 (m' := 8386559) rfl (by kernel_rfl) Sb.a rfl rfl (rd_load1 rfl (hcA _ 2 _ rfl)) rfl (by kernel_rfl) ?_
    refine xm_gone 11 (m' := 8388607) rfl (by kernel_rfl) rfl rfl rfl (by kernel_rfl) (ef_rd (rd_loadA (vs := y2.enc) rfl rfl (cl_sub (b := r7) (vs := y2.enc) (T := 45) (fr := (0, 0)) 0 (hr7 x2) rfl)) ?_)
    refine ⟨Sb.a, ?_⟩
    refine xm_gone 23 (m' := 16777215) rfl (by kernel_rfl) rfl rfl rfl (by kernel_rfl) (ef_call rfl (XF.mono (hisz x2 hx2 hxa2 a.id a.m.content) ?_))
    rintro v L' ⟨rfl, rfl⟩
    refine ⟨Sb.a, ?_⟩
    refine xm_gtake 24 (m' := 33554431) rfl (by kernel_rfl) Sb.a rfl rfl (rd_not rfl) rfl (by kernel_rfl) ?_
    refine xm_take 25 (m' := 67108863) rfl (by kernel_rfl) Sb.a (rd_pickf rfl rfl) rfl (by kernel_rfl) ?_
    refine xm_take 26 (m' := 134217727) rfl (by kernel_rfl) Sb.a (rd_move rfl) rfl (by kernel_rfl) ?_
    refine xm_gtake 27 (m' := 268435455) rfl (by kernel_rfl) Sb.a rfl rfl (rd_move rfl) rfl (by kernel_rfl) ?_
    refine xm_gtake 29 (m' := 805306367) rfl (by kernel_rfl) Sb.a rfl rfl (rd_move rfl) rfl (by kernel_rfl) ?_
    refine xm_gtake 30 (m' := 1879048191) rfl (by kernel_rfl) Sb.a rfl rfl (rd_move rfl) rfl (by kernel_rfl) ?_
    refine xm_gtake 31 (m' := 4026531839) rfl (by kernel_rfl) Sb.a rfl rfl (rd_indexAddr rfl rfl (by omega) (by omega)) rfl (by kernel_rfl) ?_
    refine xm_gtake 32 (m' := 8321499135) rfl (by kernel_rfl) Sb.a rfl rfl (rd_fieldAddr rfl) rfl (by kernel_rfl) ?_
    refine xm_gtake 33 (m' := 16911433727) rfl (by kernel_rfl) Sb.a rfl rfl (rd_load1 rfl (hcA _ 6 _ rfl)) rfl (by kernel_rfl) ?_
    refine xm_gtake 34 (m' := 34091302911) rfl (by kernel_rfl) Sb.a rfl rfl (rd_move rfl) rfl (by kernel_rfl) ?_
    refine xm_gtake 35 (m' := 68451041279) rfl (by kernel_rfl) Sb.a rfl rfl (rd_move rfl) rfl (by kernel_rfl) ?_
    refine xm_gtake 36 (m' := 137170518015) rfl (by kernel_rfl) Sb.a rfl rfl (rd_indexAddr rfl rfl (by omega) (by omega)) rfl (by kernel_rfl) ?_
    refine xm_gtake 37 (m' := 274609471487) rfl (by kernel_rfl) Sb.a rfl rfl (rd_fieldAddr rfl) rfl (by kernel_rfl) ?_
    refine xm_gtake 38 (m' := 549487378431) rfl (by kernel_rfl) Sb.a rfl rfl (rd_fieldAddr rfl) rfl (by kernel_rfl) ?_
    refine xm_gtake 39 (m' := 1099243192319) rfl (by kernel_rfl) Sb.a rfl rfl (rd_load1 rfl (hcA _ 3 _ rfl)) rfl (by kernel_rfl) ?_
    refine xm_gone 28 (m' := 1099511627775) rfl (by kernel_rfl) rfl rfl rfl (by kernel_rfl) (ef_rd (rd_loadA (vs := y2.enc) rfl rfl (cl_sub (b := r7) (vs := y2.enc) (T := 45) (fr := (0, 0)) 0 (hr7 x2) rfl)) ?_)
    refine ⟨Sb.a, ?_⟩
    refine xm_gone 40 (m' := 2199023255551) rfl (by kernel_rfl) rfl rfl rfl (by kernel_rfl) (ef_call rfl (XF.mono (hisz x2 hx2 hxa2 a.ot a.m.camera) ?_))
    rintro v L' ⟨rfl, rfl⟩
    refine ⟨Sb.a, ?_⟩
    refine xm_gtake 41 (m' := 4398046511103) rfl (by kernel_rfl) Sb.a rfl rfl (rd_not rfl) rfl (by kernel_rfl) ?_
    refine xm_take 42 (m' := 8796093022207) rfl (by kernel_rfl) Sb.a (rd_pickf rfl rfl) rfl (by kernel_rfl) ?_
    refine xm_done (by kernel_rfl) ?_
    refine xq_seq ?_
    refine xc_condf rfl ?_
    refine xc_skip ?_
    refine xq_block ?_
    refine xq_seq ?_
    refine xc_region ?_
    refine xo_rd (rd_move rfl) rfl ?_
    refine xo_rd (rd_addn rfl rfl (by omega) (by omega)) rfl ?_
    refine xo_rd (rd_assign rfl) rfl ?_
    refine xo_nil ?_
  refine xq_sub (x2.blks_sub r [_] _) (xq_perm (x2.front r [_] ((N ++ g) ++ R2)).symm ?_)
  subst hR2
  exact xq_roundI (⟨i + 1, x2, y2, now + a.by', N ++ g⟩ : PlS) ⟨by dsimp only; omega, hx2, by dsimp only; rw [hxa2]; exact hinv2, by dsimp only; rw [hxa2]; exact hf22, hya2.trans hxa2.symm, hyat2, by dsimp only; omega, by dsimp only; omega⟩ (by dsimp only; omega) rfl (by repeat (first | exact keep_nil | refine keep_cons rfl ?_))
end Go.Proofs.YtmdeajdaeihniaaGreat.X
/-
  RoomFits: who holds the floor, and who waits, are members, and so on: a walk of my own.
-/
namespace Go.Proofs.YtmdeajdaeihniaaGreat.X
open Go Go.RowKit
set_option linter.unusedVariables false
set_option linter.unusedSimpArgs false
/-- Where the law stands. -/
structure FiS where
  i : Nat
  x : Rm
  now : Int
theorem Inv.wtu {M : Int} {a : Ra} {i : Nat} (h : Inv M a i) : ∀ w, w ∈ a.fl.wt → 0 ≤ w ∧ w ≤ 4294967295 := fun w hw => by have := h.rg w (h.fi.wt w hw); omega
theorem Inv.whu {M : Int} {a : Ra} {i : Nat} (h : Inv M a i) : 0 ≤ a.fl.who ∧ a.fl.who ≤ 4294967295 := by
  cases he : a.fl.held with
  | true => have := h.rg _ (h.fi.hd he); omega
  | false => rw [h.fi.fr he]; decide
theorem nodup_le : ∀ {l m : List Int}, l.Nodup → (∀ x, x ∈ l → x ∈ m) → l.length ≤ m.length
  | [], m, _, _ => Nat.zero_le _
  | x :: r, m, hn, hs => by
    rw [List.nodup_cons] at hn
    have hx := hs x List.mem_cons_self
    have h1 := nodup_le (l := r) (m := m.erase x) hn.2 (fun y hy => (List.mem_erase_of_ne (fun e => hn.1 (by rw [← e]; exact hy))).2 (hs y (List.mem_cons_of_mem _ hy)))
    rw [List.length_erase_of_mem hx] at h1
    have := List.length_pos_of_mem hx
    rw [List.length_cons]; omega
theorem perm_vw {a : Blk} (l A R : List Blk) : (l ++ ((a :: A) ++ R)).Perm (a :: (A ++ (l ++ R))) := (by classical exact List.perm_iff_count.2 fun a => by simp only [List.append_eq, List.count_append, List.count_cons, List.count_nil, List.cons_append, List.nil_append, List.flatMap_append, List.flatMap_cons, List.flatMap_nil, List.append_nil]; omega)
set_option maxHeartbeats 6400000 in
theorem fits1 {W : World} (p : Option Addr) (n c : Nat) (xs : List Ac) (hx : xs.length = n) (hr : Rs W [] p (xs.flatMap Ac.enc)) (hE : ∀ x, x ∈ xs → Rs W [] x.p (ints .i64 x.cs) ∧ 0 ≤ x.by' ∧ x.by' ≤ 255) :
    XF Tryz.prog W 13 #[.slice p n c] [] (fun v L' => v = .bool true) := by
  refine xf_enter (args := [_]) Tryz.func13 rfl Tryz.ntmps13 rfl ?_
  focus
    refine xc_seq ?_
    refine xc_region ?_
    refine xo_rd (rd_assign rfl) rfl ?_
    refine xo_nil ?_
    refine xq_seq ?_
    refine xc_seq ?_
    refine xc_seq ?_
    refine xc_region ?_
    refine xo_rd (rd_move rfl) rfl ?_
    refine xo_ef rfl (ef_call rfl (XF.mono (xf_few p n c xs hx hr 60 (by decide)) ?_))
    rintro v L' ⟨bf, rfl, hbf, rfl⟩
    refine xo_rd (rd_not rfl) rfl ?_
    refine xo_nil ?_
    refine xq_seq ?_
    refine xc_cond rfl (fun hz1 => ?_) (fun hz1 => ?_)
    refine xc_seq ?_
    refine xc_region ?_
    refine xo_ef rfl (ef_call rfl (XF.mono (xf_works) ?_))
    rintro v L' ⟨rfl, rfl⟩
    refine xo_rd (rd_assign rfl) rfl ?_
    refine xo_nil ?_
    refine xq_seq ?_
    refine xc_ret ?_
    refine xq_then_ret ?_
    rotate_left
    refine xc_skip ?_
    refine xq_seq ?_
    rotate_left
  · exact xq_ret1 (.inl rfl) Tryz.results13 rfl rfl
  have hsm := hbf (by simpa using hz1)
  clear hbf hz1
  have hn60 : n ≤ 60 := by have := hsm.1; omega
  focus
    refine xc_seq ?_
    refine xc_region ?_
    refine xo_rd (rd_cast (v' := .agg (cfgE 6 3 12).toArray) (rd_build (T := 24) rfl rfl rfl) (by kernel_rfl)) rfl ?_
    refine xo_ef rfl (ef_call rfl (XF.mono (xf_RNew 6 3 12 (by decide) (by decide) (by decide)) ?_))
    rintro v L' ⟨r, rfl, y0, hy0, hya0, rfl⟩
    refine xo_rd (rd_move rfl) rfl ?_
    refine xo_rd (rd_extract rfl rfl) rfl ?_
    refine xo_rd (rd_extract rfl rfl) rfl ?_
    refine xo_rd (rd_assign rfl) rfl ?_
    refine xo_rd (rd_assign rfl) rfl ?_
    refine xo_nil ?_
    refine xq_seq ?_
    refine xc_seq ?_
    refine xc_seq ?_
    refine xc_region ?_
    refine xo_rd (rd_move rfl) rfl ?_
    refine xo_rd (rd_neq rfl rfl) rfl ?_
    refine xo_nil ?_
    refine xq_seq ?_
    refine xc_condf rfl ?_
    refine xc_skip ?_
    refine xq_seq ?_
    refine xc_seq ?_
    refine xc_region ?_
    refine xo_rd (rd_assign rfl) rfl ?_
    refine xo_nil ?_
    refine xq_seq ?_
    refine xc_seq ?_
    refine xc_seq ?_
    refine xc_region ?_
    refine xo_rd (rd_assign rfl) rfl ?_
    refine xo_nil ?_
    refine xq_seq ?_
    refine xc_block ?_
  refine xc_loopI (ι := FiS) (fun s => s.i ≤ n ∧ s.x.Ok ∧ Inv 6 s.x.ra s.i ∧ 0 ≤ s.now ∧ s.now ≤ 255 * s.i) (fun s => n - s.i) (fun s => s.x.blks r []) (fun s => [(0, .slice p n c), (3, .pointer (some ⟨r, 0, none⟩)), (5, .int .u64 s.now), (6, .int .i64 s.i)]) ⟨0, y0, 0⟩ ⟨Nat.zero_le _, hy0, hya0 ▸ inv_new, Int.le_refl _, (by show (0 : Int) ≤ 255 * ((0 : Nat) : Int); decide)⟩ rfl (by repeat (first | exact keep_nil | refine keep_cons rfl ?_)) ?_
  clear hy0 hya0
  rintro ⟨i, x, now⟩ ⟨hi, hx0, hinv, hnow0, hnow⟩
  dsimp only at hi hx0 hinv hnow0 hnow ⊢
  by_cases hin : i < n
  case neg =>
    focus
      refine xc_seq ?_
      refine xc_seq ?_
      refine xc_region ?_
      refine xo_rd (rd_move rfl) rfl ?_
      refine xo_rd (rd_move rfl) rfl ?_
      refine xo_rd (rd_len rfl) rfl ?_
      refine xo_rd (rd_lss rfl rfl) rfl ?_
      refine xo_nil ?_
      refine xq_seq ?_
      refine xc_dec rfl (fun h1 => (by exfalso; omega)) (fun h1 => ?_)
      refine xc_exit ?_
      refine xq_then_exit ?_
      refine xq_then_exit ?_
      refine xq_block_hit ?_
      refine xq_seq ?_
      refine xc_seq ?_
      refine xc_region ?_
      refine xo_ef rfl (ef_call rfl (XF.mono (xf_works) ?_))
      rintro v L' ⟨rfl, rfl⟩
      refine xo_rd (rd_assign rfl) rfl ?_
      refine xo_nil ?_
      refine xq_seq ?_
      refine xc_ret ?_
    exact xq_ret1 (.inl rfl) Tryz.results13 rfl rfl
  obtain ⟨b, o, hp, hc⟩ := hr.rows Ac.len (by decide) (by omega)
  subst hp
  have hca := hc i (by omega)
  obtain ⟨hcs, hby⟩ := hE xs[i] (List.getElem_mem _)
  have hcl := hsm.2 xs[i] (List.getElem_mem _)
  generalize xs[i] = a at *
  have hcA : ∀ L' (j : Nat) (u : Value), a.enc[j]? = some u → Cl W L' b (o + (i : Int).toNat * 10 + j) u := fun L' j u hj => (hca j u hj).mono fun z h => by cases h
  have hgs := hinv.fi.gs
  have hhe := hinv.fi.he
  have hgs' : x.fm.a.gs.length ≤ i := hgs
  have hhe' : 0 ≤ x.fm.a.heard := hhe
  obtain ⟨k, hk⟩ : ∃ k, (a.d.tmod 9 + 9) % 9 = k := ⟨_, rfl⟩
  have hk9 : 0 ≤ k ∧ k < 9 := by omega
  have hpk := fun L' => xf_pickI (W := W) (L := L') a.d 9 (by decide) (by decide)
  rw [hk] at hpk
  obtain ⟨bq0, hh0⟩ : ∃ h, x.fm.a.held = h := ⟨_, rfl⟩
  obtain ⟨g0, hg0⟩ : ∃ g, (x.fm.a.no, x.fm.a.who, x.fm.a.at') = g := ⟨_, rfl⟩
  obtain ⟨w0, hw0⟩ : ∃ w, x.fm.a.wt = w := ⟨_, rfl⟩
  have hhol := fun L => xf_RHolder (W := W) (L := L) r x hx0
  have hwai := fun L => xf_RWaiting (W := W) (L := L) r x hx0 hinv.wtu
  rw [hh0, hg0] at hhol
  rw [hw0] at hwai
  have hby2 : 0 ≤ a.by' ∧ a.by' ≤ 255 := hby
  focus
    refine xc_seq ?_
    refine xc_seq ?_
    refine xc_region ?_
    refine xo_rd (rd_move rfl) rfl ?_
    refine xo_rd (rd_move rfl) rfl ?_
    refine xo_rd (rd_len rfl) rfl ?_
    refine xo_rd (rd_lss rfl rfl) rfl ?_
    refine xo_nil ?_
    refine xq_seq ?_
    refine xc_dec rfl (fun h1 => ?_) (fun h1 => (by exfalso; omega))
    refine xc_skip ?_
    refine xq_seq ?_
    refine xc_seq ?_
    refine xc_block ?_
    refine xc_seq ?_
    refine xc_region ?_
    refine xo_rd (rd_move rfl) rfl ?_
    refine xo_rd (rd_move rfl) rfl ?_
    refine xo_rd (rd_indexAddr rfl rfl (by omega) (by omega)) rfl ?_
    refine xo_rd (rd_loadA (vs := a.enc) rfl rfl (hcA _)) rfl ?_
    refine xo_ef rfl (ef_alloc fun r7 => ?_)
    refine xo_ef rfl (ef_storeB [] _ rfl rfl (by first | rfl | assumption) rfl rfl rfl ?_)
    refine xo_nil ?_
    refine xq_seq ?_
    refine xc_seq ?_
    refine xc_region ?_
    refine xo_rd (rd_move rfl) rfl ?_
    refine xo_rd (rd_fieldAddr rfl) rfl ?_
    refine xo_rd (rd_load1 rfl (Cl.o0 rfl)) rfl ?_
    refine xo_rd (rd_convn rfl (by omega) (by omega)) rfl ?_
    refine xo_rd (rd_addn rfl rfl (by omega) (by omega)) rfl ?_
    refine xo_rd (rd_assign rfl) rfl ?_
    refine xo_nil ?_
    refine xq_seq ?_
    refine xc_seq ?_
    refine xc_region ?_
    refine xo_rd (rd_move rfl) rfl ?_
    refine xo_ef rfl (ef_call rfl (XF.mono ((hhol ([_] ++ [])).permK (x.front r [_] [])) ?_))
    rintro v L' ⟨rfl, rfl⟩
    refine xo_rd (rd_move rfl) rfl ?_
    refine xo_rd (rd_extract rfl rfl) rfl ?_
    refine xo_rd (rd_extract rfl rfl) rfl ?_
    refine xo_ef rfl (ef_alloc fun r8 => ?_)
    refine xo_ef rfl (ef_storeB [] _ rfl rfl (by first | rfl | assumption) rfl rfl rfl ?_)
    refine xo_rd (rd_assign rfl) rfl ?_
    refine xo_nil ?_
    refine xq_seq ?_
    refine xc_seq ?_
    refine xc_region ?_
    refine xo_rd (rd_move rfl) rfl ?_
    refine xo_ef rfl (ef_call rfl (XF.mono ((hwai ([_, _] ++ [])).perm (x.front r [_, _] [])) ?_))
    rintro v L' ⟨p10, k10, l10, rfl, hO10, rfl⟩
    refine xo_rd (rd_assign rfl) rfl ?_
    refine xo_nil ?_
    refine xq_seq ?_
  refine xc_perm (L' := x.blks r (l10 ++ ([(r8, Obj.cells (gEnc g0).toArray 101 (0, 0)), (r7, Obj.cells a.enc.toArray 52 (0, 0))] ++ []))) (x.front r l10 _) ?_
  generalize hG1 : l10 ++ ([(r8, Obj.cells (gEnc g0).toArray 101 (0, 0)), (r7, Obj.cells a.enc.toArray 52 (0, 0))] ++ []) = G1 at *
  have h81 : (r8, Obj.cells (gEnc g0).toArray 101 (0, 0)) ∈ G1 := by rw [← hG1]; exact List.mem_append_right _ List.mem_cons_self
  have h71 : (r7, Obj.cells a.enc.toArray 52 (0, 0)) ∈ G1 := by rw [← hG1]; exact List.mem_append_right _ (List.mem_cons_of_mem _ List.mem_cons_self)
  have h101 : ∀ z, z ∈ l10 → z ∈ G1 := fun z hz => by rw [← hG1]; exact List.mem_append_left _ hz
  clear hG1
  obtain ⟨e, he⟩ : ∃ e, doE k x.ra a (now + a.by') = e := ⟨_, rfl⟩
  obtain ⟨z, hz⟩ : ∃ z, doA k x.ra a (now + a.by') = z := ⟨_, rfl⟩
  have hinv2 : Inv 6 z (i + 1) := hz ▸ hinv.done k a (now + a.by') (by omega)
  have hdo := xf_does (W := W) (L := G1) r x hx0 a (now + a.by') k hk (by omega) hhe' (by omega) (hcs.mono fun z h => by cases h) (by omega)
  rw [he, hz] at hdo
  focus
    refine xc_seq ?_
    refine xc_region ?_
    refine xo_rd (rd_move rfl) rfl ?_
    refine xo_rd (rd_loadA (vs := a.enc) rfl rfl (cl_sub (b := r7) (vs := a.enc) (T := 52) (fr := (0, 0)) 0 ((Rm.sub r x G1).subset h71) rfl)) rfl ?_
    refine xo_rd (rd_move rfl) rfl ?_
    refine xo_ef rfl (ef_call rfl (XF.mono (hdo) ?_))
    rintro v L' ⟨rfl, y, hy, hya, rfl⟩
    refine xo_rd (rd_assign rfl) rfl ?_
    refine xo_nil ?_
    refine xq_seq ?_
  have hyinv : Inv 6 y.ra (i + 1) := hya ▸ hinv2
  obtain ⟨bq1, hh1⟩ : ∃ h, y.fm.a.held = h := ⟨_, rfl⟩
  obtain ⟨g1, hg1⟩ : ∃ g, (y.fm.a.no, y.fm.a.who, y.fm.a.at') = g := ⟨_, rfl⟩
  obtain ⟨ids, hids⟩ : ∃ ids, y.ro.ms.map Mb.id = ids := ⟨_, rfl⟩
  have hidl : y.ro.ms.length = ids.length := by rw [← hids, List.length_map]
  have hhol2 := fun L => xf_RHolder (W := W) (L := L) r y hy
  rw [hh1, hg1] at hhol2
  have hrids := fun L => xf_RIds (W := W) (L := L) r y hy
  rw [hids, hidl] at hrids
  focus
    refine xc_seq ?_
    refine xc_region ?_
    refine xo_rd (rd_move rfl) rfl ?_
    refine xo_ef rfl (ef_call rfl (XF.mono (hhol2 G1) ?_))
    rintro v L' ⟨rfl, rfl⟩
    refine xo_rd (rd_move rfl) rfl ?_
    refine xo_rd (rd_extract rfl rfl) rfl ?_
    refine xo_rd (rd_extract rfl rfl) rfl ?_
    refine xo_ef rfl (ef_alloc fun r12 => ?_)
    refine xo_ef rfl (ef_storeB [] _ rfl rfl (by first | rfl | assumption) rfl rfl rfl ?_)
    refine xo_rd (rd_assign rfl) rfl ?_
    refine xo_nil ?_
    refine xq_seq ?_
    refine xc_seq ?_
    refine xc_region ?_
    refine xo_rd (rd_move rfl) rfl ?_
    refine xo_ef rfl (ef_call rfl (XF.mono ((hrids ([_] ++ G1)).perm (y.front r [_] G1)) ?_))
    rintro v L' ⟨p14, k14, l14, rfl, hO14, rfl⟩
    refine xo_rd (rd_assign rfl) rfl ?_
    refine xo_nil ?_
    refine xq_seq ?_
    refine xc_seq ?_
    refine xc_region ?_
    refine xo_rd (rd_fieldAddr rfl) rfl ?_
    refine xo_rd (rd_load1 rfl (Cl.own (List.mem_append_right _ ((Rm.sub r y _).subset (List.mem_cons_of_mem _ h71))) rfl)) rfl ?_
    refine xo_ef rfl (ef_call rfl (XF.mono (hpk _) ?_))
    rintro v L' ⟨rfl, rfl⟩
    refine xo_rd (rd_assign rfl) rfl ?_
    refine xo_nil ?_
    refine xq_seq ?_
  refine xc_perm (L' := y.blks r (l14 ++ ([(r12, Obj.cells (gEnc g1).toArray 101 (0, 0))] ++ G1))) (y.front r l14 _) ?_
  generalize hG2 : l14 ++ ([(r12, Obj.cells (gEnc g1).toArray 101 (0, 0))] ++ G1) = G2 at *
  have hGG : ∀ z, z ∈ G1 → z ∈ G2 := fun z hz => by rw [← hG2]; exact List.mem_append_right _ (List.mem_cons_of_mem _ hz)
  have h12 : (r12, Obj.cells (gEnc g1).toArray 101 (0, 0)) ∈ G2 := by rw [← hG2]; exact List.mem_append_right _ List.mem_cons_self
  have h142 : ∀ z, z ∈ l14 → z ∈ G2 := fun z hz => by rw [← hG2]; exact List.mem_append_left _ hz
  clear hG2
  have hsG : ∀ z, z ∈ G2 → z ∈ y.blks r G2 := (Rm.sub r y G2).subset
  have r14 : ∀ L', (∀ z, z ∈ y.blks r G2 → z ∈ L') → Rs W L' p14 (ints .i64 ids) := fun L' h => hO14.rs fun z hz => h z (hsG z (h142 z hz))
  have r10 : ∀ L', (∀ z, z ∈ y.blks r G2 → z ∈ L') → Rs W L' p10 (ints .i64 w0) := fun L' h => hO10.rs fun z hz => h z (hsG z (hGG z (h101 z hz)))
  have hwu := hyinv.wtu
  have hw60 : w0.length ≤ 32 := by have := hx0.fm.wb; have := hx0.fm.bd; rw [← hw0]; omega
  refine xc_join (ι := Unit) (fun _ => True) (fun _ => y.blks r G2) (fun _ => [(0, .slice (some ⟨b, o, none⟩) n c), (3, .pointer (some ⟨r, 0, none⟩)), (5, .int .u64 (now + a.by')), (6, .int .i64 i), (7, .pointer (some ⟨r7, 0, none⟩)), (11, .int .i64 e), (12, .pointer (some ⟨r12, 0, none⟩)), (13, .bool bq1), (14, .slice p14 ids.length k14), (15, .int .i64 k)]) ?_ ?_
  · by_cases hk56 : k = 5 ∨ k = 6
    · have hfl : y.fm.a = x.fm.a := by
        have h2 : y.ra.fl = x.ra.fl := by rw [hya, ← hz]; exact fl_sub hk56
        exact h2
      have hgg : g1 = g0 := by rw [← hg1, ← hg0, hfl]
      have hhh : bq1 = bq0 := by rw [← hh1, ← hh0, hfl]
      have hww : y.fm.a.wt = w0 := by rw [hfl, hw0]
      have hwai2 := fun L => xf_RWaiting (W := W) (L := L) r y hy hwu
      rw [hww] at hwai2
      subst hgg hhh
      rcases hk56 with rfl | rfl
      · skip
        focus
          refine xc_seq ?_
          refine xc_region ?_
          refine xo_rd (rd_move rfl) rfl ?_
          refine xo_rd (rd_eql rfl rfl) rfl ?_
          refine xo_rd (rd_move rfl) rfl ?_
          refine xo_gskip rfl rfl rfl rfl ?_
          refine xo_gskip rfl rfl rfl rfl ?_
          refine xo_rd (rd_pickt rfl rfl) rfl ?_
          refine xo_rd (rd_move rfl) rfl ?_
          refine xo_grd rfl rfl (rd_loadA (vs := gEnc g1) rfl rfl (cl_sub (b := r12) (vs := gEnc g1) (T := 101) (fr := (0, 0)) 0 (hsG _ h12) rfl)) rfl ?_
          refine xo_grd rfl rfl (rd_loadA (vs := gEnc g1) rfl rfl (cl_sub (b := r8) (vs := gEnc g1) (T := 101) (fr := (0, 0)) 0 (hsG _ (hGG _ h81)) rfl)) rfl ?_
          refine xo_grd rfl rfl (rd_cast (v' := .bool false) (rd_neS (eqsG g1 g1) rfl rfl) (by rw [decide_eq_true rfl]; rfl)) rfl ?_
          refine xo_grd rfl rfl (rd_move rfl) rfl ?_
          refine xo_grd rfl rfl (rd_move rfl) rfl ?_
          refine xo_grd rfl rfl (rd_move rfl) rfl ?_
          refine xo_grd rfl rfl (rd_cast (v' := .bool false) (rd_neb rfl rfl) (by rw [beq_self_eq_true]; rfl)) rfl ?_
          refine xo_grd rfl rfl (rd_pickf rfl rfl) rfl ?_
          refine xo_grd rfl rfl (rd_move rfl) rfl ?_
          refine xo_grd rfl rfl (rd_move rfl) rfl ?_
          refine xo_gef rfl rfl rfl (ef_call rfl (XF.mono (hwai2 G2) ?_))
          rintro v L' ⟨p90, k90, l90, rfl, hO90, rfl⟩
          refine xo_grd rfl rfl (rd_move rfl) rfl ?_
          refine xo_gef rfl rfl rfl (ef_call rfl (XF.mono (xf_sameT p90 p10 _ _ _ _ w0 w0 rfl rfl (hO90.rs (by intro z hz; simp [hz])) (r10 _ (by intro z hz; simp [hz])) (by omega) rfl) ?_))
          rintro v L' ⟨rfl, rfl⟩
          refine xo_grd rfl rfl (rd_not rfl) rfl ?_
          refine xo_grd rfl rfl (rd_pickf rfl rfl) rfl ?_
          refine xo_rd (rd_pickt rfl rfl) rfl ?_
          refine xo_nil ?_
          refine xq_seq ?_
          refine xc_condf rfl ?_
          refine xc_skip ?_
        exact xq_sub (List.sublist_append_right l90 _) (xq_joined () trivial rfl (by repeat (first | exact keep_nil | refine keep_cons rfl ?_)))
      · skip
        focus
          refine xc_seq ?_
          refine xc_region ?_
          refine xo_rd (rd_move rfl) rfl ?_
          refine xo_rd (rd_eql rfl rfl) rfl ?_
          refine xo_rd (rd_move rfl) rfl ?_
          refine xo_grd rfl rfl (rd_move rfl) rfl ?_
          refine xo_grd rfl rfl (rd_eql rfl rfl) rfl ?_
          refine xo_rd (rd_pickf rfl rfl) rfl ?_
          refine xo_rd (rd_move rfl) rfl ?_
          refine xo_grd rfl rfl (rd_loadA (vs := gEnc g1) rfl rfl (cl_sub (b := r12) (vs := gEnc g1) (T := 101) (fr := (0, 0)) 0 (hsG _ h12) rfl)) rfl ?_
          refine xo_grd rfl rfl (rd_loadA (vs := gEnc g1) rfl rfl (cl_sub (b := r8) (vs := gEnc g1) (T := 101) (fr := (0, 0)) 0 (hsG _ (hGG _ h81)) rfl)) rfl ?_
          refine xo_grd rfl rfl (rd_cast (v' := .bool false) (rd_neS (eqsG g1 g1) rfl rfl) (by rw [decide_eq_true rfl]; rfl)) rfl ?_
          refine xo_grd rfl rfl (rd_move rfl) rfl ?_
          refine xo_grd rfl rfl (rd_move rfl) rfl ?_
          refine xo_grd rfl rfl (rd_move rfl) rfl ?_
          refine xo_grd rfl rfl (rd_cast (v' := .bool false) (rd_neb rfl rfl) (by rw [beq_self_eq_true]; rfl)) rfl ?_
          refine xo_grd rfl rfl (rd_pickf rfl rfl) rfl ?_
          refine xo_grd rfl rfl (rd_move rfl) rfl ?_
          refine xo_grd rfl rfl (rd_move rfl) rfl ?_
          refine xo_gef rfl rfl rfl (ef_call rfl (XF.mono (hwai2 G2) ?_))
          rintro v L' ⟨p90, k90, l90, rfl, hO90, rfl⟩
          refine xo_grd rfl rfl (rd_move rfl) rfl ?_
          refine xo_gef rfl rfl rfl (ef_call rfl (XF.mono (xf_sameT p90 p10 _ _ _ _ w0 w0 rfl rfl (hO90.rs (by intro z hz; simp [hz])) (r10 _ (by intro z hz; simp [hz])) (by omega) rfl) ?_))
          rintro v L' ⟨rfl, rfl⟩
          refine xo_grd rfl rfl (rd_not rfl) rfl ?_
          refine xo_grd rfl rfl (rd_pickf rfl rfl) rfl ?_
          refine xo_rd (rd_pickt rfl rfl) rfl ?_
          refine xo_nil ?_
          refine xq_seq ?_
          refine xc_condf rfl ?_
          refine xc_skip ?_
        exact xq_sub (List.sublist_append_right l90 _) (xq_joined () trivial rfl (by repeat (first | exact keep_nil | refine keep_cons rfl ?_)))
    · have hk5 : k ≠ 5 := fun h => hk56 (.inl h)
      have hk6 : k ≠ 6 := fun h => hk56 (.inr h)
      focus
        refine xc_seq ?_
        refine xc_region ?_
        refine xo_rd (rd_move rfl) rfl ?_
        refine xo_rd (rd_eql rfl rfl) rfl ?_
        refine xo_rd (rd_move rfl) rfl ?_
        refine xo_dec 75 rfl (fun h1 => (by exfalso; omega)) (fun h1 => ?_)
        refine xo_grd rfl rfl (rd_move rfl) rfl ?_
        refine xo_grd rfl rfl (rd_eql rfl rfl) rfl ?_
        refine xo_rd (rd_pickf rfl rfl) rfl ?_
        refine xo_rd (rd_move rfl) rfl ?_
        refine xo_dec 79 rfl (fun h2 => (by exfalso; omega)) (fun h2 => ?_)
        refine xo_gskip rfl rfl rfl rfl ?_
        refine xo_gskip rfl rfl rfl rfl ?_
        refine xo_gskip rfl rfl rfl rfl ?_
        refine xo_gskip rfl rfl rfl rfl ?_
        refine xo_gskipU rfl rfl rfl ?_
        refine xo_gskipU rfl rfl rfl ?_
        refine xo_gskipU rfl rfl rfl ?_
        refine xo_gskip rfl rfl rfl rfl ?_
        refine xo_gskip rfl rfl rfl rfl ?_
        refine xo_gskipU rfl rfl rfl ?_
        refine xo_gskipU rfl rfl rfl ?_
        refine xo_gskipU rfl rfl rfl ?_
        refine xo_gskipU rfl rfl rfl ?_
        refine xo_gskipU rfl rfl rfl ?_
        refine xo_gskip rfl rfl rfl rfl ?_
        refine xo_rd (rd_pickf rfl rfl) rfl ?_
        refine xo_nil ?_
        refine xq_seq ?_
        refine xc_condf rfl ?_
        refine xc_skip ?_
      exact xq_joined () trivial rfl (by repeat (first | exact keep_nil | refine keep_cons rfl ?_))
  rintro ⟨⟩ _
  refine xc_join (ι := Unit) (fun _ => True) (fun _ => y.blks r G2) (fun _ => [(0, .slice (some ⟨b, o, none⟩) n c), (3, .pointer (some ⟨r, 0, none⟩)), (5, .int .u64 (now + a.by')), (6, .int .i64 i), (7, .pointer (some ⟨r7, 0, none⟩)), (11, .int .i64 e), (12, .pointer (some ⟨r12, 0, none⟩)), (13, .bool bq1), (14, .slice p14 ids.length k14), (15, .int .i64 k)]) ?_ ?_
  · by_cases hlv : k = 1 ∧ e = 0
    · obtain ⟨rfl, rfl⟩ := hlv
      have hlo := left_out (a := x.ra) (id := a.id) (now := now + a.by') he hinv.nd
      have hyl : y.ra = lvA x.ra a.id (now + a.by') := hya.trans hz.symm
      rw [← hyl] at hlo
      have hvw := xf_VwK (W := W) (L := G2) r y hy a.id [] (hlo.2 _)
      have hno : a.id ∉ ids := by rw [← hids]; exact hlo.1
      have hhs : ∀ L', (∀ z, z ∈ y.blks r G2 → z ∈ L') → XF Tryz.prog W 54 #[.slice p14 ids.length k14, .int .i64 a.id] L' (fun v L'' => v = .bool false ∧ L'' = L') := fun L' h => by
        have := xf_has (W := W) (L := L') p14 ids.length k14 ids a.id rfl (r14 _ h) (by have := hyinv.ln; have h2 : y.ra.ms = y.ro.ms := rfl; rw [h2] at this; omega)
        rwa [decide_eq_false hno] at this
      focus
        refine xc_seq ?_
        refine xc_region ?_
        refine xo_rd (rd_move rfl) rfl ?_
        refine xo_rd (rd_eql rfl rfl) rfl ?_
        refine xo_rd (rd_move rfl) rfl ?_
        refine xo_grd rfl rfl (rd_move rfl) rfl ?_
        refine xo_grd rfl rfl (rd_eql rfl rfl) rfl ?_
        refine xo_rd (rd_pickt rfl rfl) rfl ?_
        refine xo_rd (rd_move rfl) rfl ?_
        refine xo_grd rfl rfl (rd_move rfl) rfl ?_
        refine xo_grd rfl rfl (rd_fieldAddr rfl) rfl ?_
        refine xo_grd rfl rfl (rd_load1 rfl (Cl.own (hsG _ (hGG _ h71)) rfl)) rfl ?_
        refine xo_gef rfl rfl rfl (ef_call rfl (XF.mono (hhs _ (by intro z hz; simp [hz])) ?_))
        rintro v L' ⟨rfl, rfl⟩
        refine xo_grd rfl rfl (rd_move rfl) rfl ?_
        refine xo_grd rfl rfl (rd_move rfl) rfl ?_
        refine xo_grd rfl rfl (rd_fieldAddr rfl) rfl ?_
        refine xo_grd rfl rfl (rd_load1 rfl (Cl.own (hsG _ (hGG _ h71)) rfl)) rfl ?_
        refine xo_gef rfl rfl rfl (ef_call rfl (XF.mono (hvw) ?_))
        rintro v L' ⟨p91, k91, l91, rfl, hO91, rfl⟩
        refine xo_grd rfl rfl (rd_len rfl) rfl ?_
        refine xo_grd rfl rfl (rd_gtr rfl rfl) rfl ?_
        refine xo_grd rfl rfl (rd_pickf rfl rfl) rfl ?_
        refine xo_rd (rd_pickt rfl rfl) rfl ?_
        refine xo_nil ?_
        refine xq_seq ?_
        refine xc_condf rfl ?_
        refine xc_skip ?_
      exact xq_sub (List.sublist_append_right l91 _) (xq_joined () trivial rfl (by repeat (first | exact keep_nil | refine keep_cons rfl ?_)))
    · by_cases hk1 : k = 1
      · have he0 : e ≠ 0 := fun h => hlv ⟨hk1, h⟩
        focus
          refine xc_seq ?_
          refine xc_region ?_
          refine xo_rd (rd_move rfl) rfl ?_
          refine xo_rd (rd_eql rfl rfl) rfl ?_
          refine xo_rd (rd_move rfl) rfl ?_
          refine xo_dec 98 rfl (fun h1 => ?_) (fun h1 => (by exfalso; omega))
          refine xo_grd rfl rfl (rd_move rfl) rfl ?_
          refine xo_grd rfl rfl (rd_eql rfl rfl) rfl ?_
          refine xo_rd (rd_pickt rfl rfl) rfl ?_
          refine xo_rd (rd_move rfl) rfl ?_
          refine xo_dec 102 rfl (fun h2 => (by exfalso; omega)) (fun h2 => ?_)
          refine xo_gskip rfl rfl rfl rfl ?_
          refine xo_gskip rfl rfl rfl rfl ?_
          refine xo_gskip rfl rfl rfl rfl ?_
          refine xo_gskip rfl rfl rfl rfl ?_
          refine xo_gskip rfl rfl rfl rfl ?_
          refine xo_gskipU rfl rfl rfl ?_
          refine xo_gskipU rfl rfl rfl ?_
          refine xo_gskipU rfl rfl rfl ?_
          refine xo_gskipU rfl rfl rfl ?_
          refine xo_gskipU rfl rfl rfl ?_
          refine xo_gskipU rfl rfl rfl ?_
          refine xo_gskip rfl rfl rfl rfl ?_
          refine xo_rd (rd_pickf rfl rfl) rfl ?_
          refine xo_nil ?_
          refine xq_seq ?_
          refine xc_condf rfl ?_
          refine xc_skip ?_
        exact xq_joined () trivial rfl (by repeat (first | exact keep_nil | refine keep_cons rfl ?_))
      · skip
        focus
          refine xc_seq ?_
          refine xc_region ?_
          refine xo_rd (rd_move rfl) rfl ?_
          refine xo_rd (rd_eql rfl rfl) rfl ?_
          refine xo_rd (rd_move rfl) rfl ?_
          refine xo_dec 98 rfl (fun h1 => (by exfalso; omega)) (fun h1 => ?_)
          refine xo_gskip rfl rfl rfl rfl ?_
          refine xo_gskip rfl rfl rfl rfl ?_
          refine xo_rd (rd_pickf rfl rfl) rfl ?_
          refine xo_rd (rd_move rfl) rfl ?_
          refine xo_gskip rfl rfl rfl rfl ?_
          refine xo_gskip rfl rfl rfl rfl ?_
          refine xo_gskip rfl rfl rfl rfl ?_
          refine xo_gskip rfl rfl rfl rfl ?_
          refine xo_gskip rfl rfl rfl rfl ?_
          refine xo_gskipU rfl rfl rfl ?_
          refine xo_gskipU rfl rfl rfl ?_
          refine xo_gskipU rfl rfl rfl ?_
          refine xo_gskipU rfl rfl rfl ?_
          refine xo_gskipU rfl rfl rfl ?_
          refine xo_gskipU rfl rfl rfl ?_
          refine xo_gskip rfl rfl rfl rfl ?_
          refine xo_rd (rd_pickf rfl rfl) rfl ?_
          refine xo_nil ?_
          refine xq_seq ?_
          refine xc_condf rfl ?_
          refine xc_skip ?_
        exact xq_joined () trivial rfl (by repeat (first | exact keep_nil | refine keep_cons rfl ?_))
  rintro ⟨⟩ _
  have hwr := hyinv.whu
  obtain ⟨gw, hge⟩ : ∃ gw, y.fm.a.who = gw := ⟨_, rfl⟩
  have hc12 : ∀ L', (∀ z, z ∈ y.blks r G2 → z ∈ L') → Cl W L' r12 1 (.int .u32 gw) := fun L' h => Cl.own (h _ (hsG _ h12)) (by rw [← hg1, ← hge]; rfl)
  rw [show y.ra.fl.who = y.fm.a.who from rfl, hge] at hwr
  have hil : ids.length ≤ 6 := by
    have h3 : y.ra.ms.length ≤ 6 := by have := hyinv.ln; omega
    rw [show y.ra.ms = y.ro.ms from rfl, hidl] at h3; exact h3
  refine xc_join (ι := Unit) (fun _ => True) (fun _ => y.blks r G2) (fun _ => [(0, .slice (some ⟨b, o, none⟩) n c), (3, .pointer (some ⟨r, 0, none⟩)), (5, .int .u64 (now + a.by')), (6, .int .i64 i), (7, .pointer (some ⟨r7, 0, none⟩)), (11, .int .i64 e), (12, .pointer (some ⟨r12, 0, none⟩)), (13, .bool bq1), (14, .slice p14 ids.length k14), (15, .int .i64 k)]) ?_ ?_
  · cases bq1 with
    | false =>
      focus
        refine xc_seq ?_
        refine xc_region ?_
        refine xo_rd (rd_move rfl) rfl ?_
        refine xo_rd (rd_move rfl) rfl ?_
        refine xo_gskip rfl rfl rfl rfl ?_
        refine xo_gskip rfl rfl rfl rfl ?_
        refine xo_gskip rfl rfl rfl rfl ?_
        refine xo_gskip rfl rfl rfl rfl ?_
        refine xo_gskip rfl rfl rfl rfl ?_
        refine xo_gskip rfl rfl rfl rfl ?_
        refine xo_rd (rd_pickf rfl rfl) rfl ?_
        refine xo_rd (rd_move rfl) rfl ?_
        refine xo_grd rfl rfl (rd_move rfl) rfl ?_
        refine xo_grd rfl rfl (rd_len rfl) rfl ?_
        refine xo_grd rfl rfl (rd_gtr rfl rfl) rfl ?_
        refine xo_rd (rd_pickf rfl rfl) rfl ?_
        refine xo_nil ?_
        refine xq_seq ?_
        refine xc_dec rfl (fun h1 => (by exfalso; omega)) (fun h1 => ?_)
        refine xc_skip ?_
      exact xq_joined () trivial rfl (by repeat (first | exact keep_nil | refine keep_cons rfl ?_))
    | true =>
      have hwho : gw ∈ ids := by rw [← hids, ← hge]; exact hyinv.fi.hd hh1
      have hhs : ∀ L', (∀ z, z ∈ y.blks r G2 → z ∈ L') → XF Tryz.prog W 54 #[.slice p14 ids.length k14, .int .i64 gw] L' (fun v L'' => v = .bool true ∧ L'' = L') := fun L' h => by
        have := xf_has (W := W) (L := L') p14 ids.length k14 ids gw rfl (r14 _ h) (by omega)
        rwa [decide_eq_true hwho] at this
      focus
        refine xc_seq ?_
        refine xc_region ?_
        refine xo_rd (rd_move rfl) rfl ?_
        refine xo_rd (rd_move rfl) rfl ?_
        refine xo_grd rfl rfl (rd_move rfl) rfl ?_
        refine xo_grd rfl rfl (rd_fieldAddr rfl) rfl ?_
        refine xo_grd rfl rfl (rd_load1 rfl (hc12 _ (by intro z hz; simp [hz]))) rfl ?_
        refine xo_grd rfl rfl (rd_convn rfl (by omega) (by omega)) rfl ?_
        refine xo_gef rfl rfl rfl (ef_call rfl (XF.mono (hhs _ (by intro z hz; simp [hz])) ?_))
        rintro v L' ⟨rfl, rfl⟩
        refine xo_grd rfl rfl (rd_not rfl) rfl ?_
        refine xo_rd (rd_pickt rfl rfl) rfl ?_
        refine xo_rd (rd_move rfl) rfl ?_
        refine xo_grd rfl rfl (rd_move rfl) rfl ?_
        refine xo_grd rfl rfl (rd_len rfl) rfl ?_
        refine xo_grd rfl rfl (rd_gtr rfl rfl) rfl ?_
        refine xo_rd (rd_pickf rfl rfl) rfl ?_
        refine xo_nil ?_
        refine xq_seq ?_
        refine xc_dec rfl (fun h1 => (by exfalso; omega)) (fun h1 => ?_)
        refine xc_skip ?_
      exact xq_joined () trivial rfl (by repeat (first | exact keep_nil | refine keep_cons rfl ?_))
  rintro ⟨⟩ _
  focus
    refine xc_seq ?_
    refine xc_region ?_
    refine xo_rd (rd_move rfl) rfl ?_
    refine xo_ef rfl (ef_call rfl (XF.mono ((xf_RWaiting (W := W) (L := G2) r y hy hwu)) ?_))
    rintro v L' ⟨p16, k16, l16, rfl, hO16, rfl⟩
    refine xo_rd (rd_assign rfl) rfl ?_
    refine xo_nil ?_
    refine xq_seq ?_
    refine xc_seq ?_
    refine xc_seq ?_
    refine xc_region ?_
    refine xo_rd (rd_assign rfl) rfl ?_
    refine xo_nil ?_
    refine xq_seq ?_
    refine xc_block ?_
  have hwin : ∀ z, z ∈ y.fm.a.wt → z ∈ ids := fun z hz => by rw [← hids]; exact hyinv.fi.wt z hz
  have hw1l : y.fm.a.wt.length ≤ 32 := by have := hy.fm.wb; have := hy.fm.bd; omega
  generalize y.fm.a.wt = w1 at *
  have hhas : ∀ L' (z : Int), (∀ u, u ∈ y.blks r G2 → u ∈ L') → z ∈ ids → XF Tryz.prog W 54 #[.slice p14 ids.length k14, .int .i64 z] L' (fun v L'' => v = .bool true ∧ L'' = L') := fun L' z h hz => by
    have := xf_has (W := W) (L := L') p14 ids.length k14 ids z rfl (r14 _ h) (by omega)
    rwa [decide_eq_true hz] at this
  refine xc_loopK (ι := Nat) (fun j => j ≤ w1.length) (fun j => w1.length - j) (fun j => [(0, .slice (some ⟨b, o, none⟩) n c), (3, .pointer (some ⟨r, 0, none⟩)), (5, .int .u64 (now + a.by')), (6, .int .i64 i), (12, .pointer (some ⟨r12, 0, none⟩)), (13, .bool bq1), (14, .slice p14 ids.length k14), (16, .slice p16 w1.length k16), (17, .int .i64 j)]) 0 (Nat.zero_le _) (by repeat (first | exact keep_nil | refine keep_cons rfl ?_)) ?_
  intro j hj
  by_cases hjn : j < w1.length
  · have hr16 : Rs W (l16 ++ y.blks r G2) p16 (ints .i64 w1) := hO16.rs fun z hz => List.mem_append_left _ hz
    obtain ⟨b16, o16, hpb, hcb⟩ := hr16.int (i := j) (by omega)
    subst hpb
    have hwm := hwin w1[j] (List.getElem_mem _)
    generalize w1[j] = w at *
    focus
      refine xc_seq ?_
      refine xc_seq ?_
      refine xc_region ?_
      refine xo_rd (rd_move rfl) rfl ?_
      refine xo_rd (rd_move rfl) rfl ?_
      refine xo_rd (rd_len rfl) rfl ?_
      refine xo_rd (rd_lss rfl rfl) rfl ?_
      refine xo_nil ?_
      refine xq_seq ?_
      refine xc_dec rfl (fun h1 => ?_) (fun h1 => (by exfalso; omega))
      refine xc_skip ?_
      refine xq_seq ?_
      refine xc_seq ?_
      refine xc_block ?_
      refine xc_seq ?_
      refine xc_region ?_
      refine xo_rd (rd_move rfl) rfl ?_
      refine xo_rd (rd_move rfl) rfl ?_
      refine xo_rd (rd_move rfl) rfl ?_
      refine xo_rd (rd_indexAddr rfl rfl (by omega) (by omega)) rfl ?_
      refine xo_rd (rd_load1 rfl hcb) rfl ?_
      refine xo_ef rfl (ef_call rfl (XF.mono (hhas _ w (by intro z hz; simp [hz]) hwm) ?_))
      rintro v L' ⟨rfl, rfl⟩
      refine xo_rd (rd_not rfl) rfl ?_
      refine xo_nil ?_
      refine xq_seq ?_
      refine xc_condf rfl ?_
      refine xc_skip ?_
      refine xq_block ?_
      refine xq_seq ?_
      refine xc_region ?_
      refine xo_rd (rd_move rfl) rfl ?_
      refine xo_rd (rd_addn rfl rfl (by omega) (by omega)) rfl ?_
      refine xo_rd (rd_assign rfl) rfl ?_
      refine xo_nil ?_
    exact xq_roundK rfl (j + 1) (by omega) (by omega) (List.Sublist.refl _) (by repeat (first | exact keep_nil | refine keep_cons rfl ?_))
  focus
    refine xc_seq ?_
    refine xc_seq ?_
    refine xc_region ?_
    refine xo_rd (rd_move rfl) rfl ?_
    refine xo_rd (rd_move rfl) rfl ?_
    refine xo_rd (rd_len rfl) rfl ?_
    refine xo_rd (rd_lss rfl rfl) rfl ?_
    refine xo_nil ?_
    refine xq_seq ?_
    refine xc_dec rfl (fun h1 => (by exfalso; omega)) (fun h1 => ?_)
    refine xc_exit ?_
    refine xq_then_exit ?_
    refine xq_then_exit ?_
    refine xq_block_hit ?_
    refine xq_seq ?_
  refine xc_sub (List.sublist_append_right l16 _) ?_
  obtain ⟨crowd, hcrowd⟩ : ∃ cr, (y.ro.ms.map Mb.id).filter (audP y.was y.fm.a.held y.fm.a.who) = cr := ⟨_, rfl⟩
  have haud := xf_RAudience (W := W) (L := G2) r y hy hyinv.whu
  rw [hcrowd] at haud
  focus
    refine xc_seq ?_
    refine xc_region ?_
    refine xo_rd (rd_move rfl) rfl ?_
    refine xo_ef rfl (ef_call rfl (XF.mono (haud) ?_))
    rintro v L' ⟨p18, k18, l18, rfl, hO18, rfl⟩
    refine xo_rd (rd_assign rfl) rfl ?_
    refine xo_nil ?_
    refine xq_seq ?_
    refine xc_seq ?_
    refine xc_seq ?_
    refine xc_region ?_
    refine xo_rd (rd_assign rfl) rfl ?_
    refine xo_nil ?_
    refine xq_seq ?_
    refine xc_block ?_
  refine xc_perm (L' := y.blks r (l18 ++ G2)) (y.front r l18 G2) ?_
  obtain ⟨G3, hG3⟩ : ∃ G3, l18 ++ G2 = G3 := ⟨_, rfl⟩
  rw [hG3]
  have h183 : ∀ z, z ∈ l18 → z ∈ G3 := fun z hz => by rw [← hG3]; exact List.mem_append_left _ hz
  have hG23 : ∀ z, z ∈ y.blks r G2 → z ∈ y.blks r G3 := fun z hz => by rw [← hG3]; exact (y.blks_sub r l18 G2).subset hz
  clear hG3
  have r18 : ∀ L', (∀ z, z ∈ y.blks r G3 → z ∈ L') → Rs W L' p18 (ints .i64 crowd) := fun L' h => hO18.rs fun z hz => h z ((Rm.sub r y G3).subset (h183 z hz))
  have hcl : crowd.length ≤ 6 := by rw [← hcrowd, hids]; exact Nat.le_trans (List.length_filter_le ..) hil
  have hct : ∀ z, z ∈ crowd → (wfA y.was z).isSome = true ∧ (wgA y.was z).ct = true ∧ (bq1 = true → gw ≠ z) ∧ z ∈ ids := fun z hz => by
    have h := aud_told hyinv (z := z) (by rw [← hcrowd] at hz; exact hz)
    rw [← hids, ← hge, ← hh1]
    exact h
  have hidt : ∀ z, z ∈ ids → (wfA y.was z).isSome = true ∧ ((wgA y.was z).ct = true → ¬ (bq1 = true ∧ gw = z) → z ∈ crowd) ∧ (wgA y.was z).cs.Nodup ∧ ∀ c, c ∈ (wgA y.was z).cs → c ∈ ids ∧ c ≠ z ∧ z ∈ ids.filter (viewP y.was c) := fun z hz => by
    have h := id_told hyinv (z := z) (by rw [← hids] at hz; exact hz)
    rw [← hids, ← hge, ← hh1, ← hcrowd]
    exact h
  have hhas3 : ∀ L' (z : Int), (∀ u, u ∈ y.blks r G3 → u ∈ L') → z ∈ ids → XF Tryz.prog W 54 #[.slice p14 ids.length k14, .int .i64 z] L' (fun v L'' => v = .bool true ∧ L'' = L') := fun L' z h hz => hhas L' z (fun u hu => h u (hG23 u hu)) hz
  have hc123 : ∀ L', (∀ z, z ∈ y.blks r G3 → z ∈ L') → Cl W L' r12 1 (.int .u32 gw) := fun L' h => hc12 L' (fun u hu => h u (hG23 u hu))
  have r143 : ∀ L', (∀ z, z ∈ y.blks r G3 → z ∈ L') → Rs W L' p14 (ints .i64 ids) := fun L' h => r14 L' (fun u hu => h u (hG23 u hu))
  refine xc_loopK (ι := Nat) (fun j => j ≤ crowd.length) (fun j => crowd.length - j) (fun j => [(0, .slice (some ⟨b, o, none⟩) n c), (3, .pointer (some ⟨r, 0, none⟩)), (5, .int .u64 (now + a.by')), (6, .int .i64 i), (12, .pointer (some ⟨r12, 0, none⟩)), (13, .bool bq1), (14, .slice p14 ids.length k14), (18, .slice p18 crowd.length k18), (19, .int .i64 j)]) 0 (Nat.zero_le _) (by repeat (first | exact keep_nil | refine keep_cons rfl ?_)) ?_
  intro j hj
  by_cases hjn : j < crowd.length
  · obtain ⟨b18, o18, hpb, hcb⟩ := (r18 _ fun _ h => h).int (i := j) (by omega)
    subst hpb
    obtain ⟨ht1, ht2, ht3, ht4⟩ := hct crowd[j] (List.getElem_mem _)
    generalize crowd[j] = w at *
    have hcb2 : ∀ L', (∀ z, z ∈ y.blks r G3 → z ∈ L') → Cl W L' b18 (o18 + (j : Int).toNat * 1) (.int .i64 w) := fun L' h => hcb.mono h
    have hwt := xf_WtK (W := W) (L := G3) r y hy w (wgA y.was w) true rfl ht1
    generalize wgA y.was w = wa at *
    focus
      refine xc_seq ?_
      refine xc_seq ?_
      refine xc_region ?_
      refine xo_rd (rd_move rfl) rfl ?_
      refine xo_rd (rd_move rfl) rfl ?_
      refine xo_rd (rd_len rfl) rfl ?_
      refine xo_rd (rd_lss rfl rfl) rfl ?_
      refine xo_nil ?_
      refine xq_seq ?_
      refine xc_dec rfl (fun h1 => ?_) (fun h1 => (by exfalso; omega))
      refine xc_skip ?_
      refine xq_seq ?_
      refine xc_seq ?_
      refine xc_block ?_
      refine xc_seq ?_
      refine xc_region ?_
      refine xo_rd (rd_move rfl) rfl ?_
      refine xo_rd (rd_move rfl) rfl ?_
      refine xo_rd (rd_move rfl) rfl ?_
      refine xo_rd (rd_indexAddr rfl rfl (by omega) (by omega)) rfl ?_
      refine xo_rd (rd_load1 rfl (hcb2 _ (by intro z hz; simp [hz]))) rfl ?_
      refine xo_ef rfl (ef_call rfl (XF.mono (hwt) ?_))
      rintro v L' ⟨p20, k20, l20, rfl, hO20, rfl⟩
      refine xo_rd (rd_move rfl) rfl ?_
      refine xo_rd (rd_extract rfl rfl) rfl ?_
      refine xo_rd (rd_extract rfl rfl) rfl ?_
      refine xo_ef rfl (ef_alloc fun r20 => ?_)
      refine xo_ef rfl (ef_storeB [] _ rfl rfl (by first | rfl | assumption) rfl rfl rfl ?_)
      refine xo_rd (rd_assign rfl) rfl ?_
      refine xo_nil ?_
      refine xq_seq ?_
    obtain ⟨wid, wct, wcs⟩ := wa
    dsimp only at ht2 hO20
    subst ht2
    cases bq1 with
    | false =>
      focus
        refine xc_seq ?_
        refine xc_drawM [0, 1, 2, 4, 12, 20, 36, 68, 128, 384, 512, 1536, 2560, 512, 512, 25088, 33280, 70144, 131712, 262272, 524800, 1048576, 1048576, 1048576, 13631488, 17825792, 36700160, 68157440, 135266304] [0, 1, 2, 4, 12, 20, 36, 68, 128, 384, 512, 1536, 2560, 512, 512, 25088, 33280, 70144, 131712, 262272, 524800, 1048576, 1048576, 1048576, 13631488, 17825792, 36700160, 68157440, 135266304] ((r20, Obj.cells (wEnc true p20 wcs.length k20).toArray 64 (0, 0)) :: (l20 ++ y.blks r G3)) (by kernel_rfl) (by kernel_rfl) (by kernel_rfl) ?_
        refine xm_take 0 (m' := 1) rfl (by kernel_rfl) Sb.a (rd_move rfl) rfl (by kernel_rfl) ?_
        refine xm_take 1 (m' := 3) rfl (by kernel_rfl) Sb.a (rd_not rfl) rfl (by kernel_rfl) ?_
        refine xm_take 2 (m' := 7) rfl (by kernel_rfl) Sb.a (rd_move rfl) rfl (by kernel_rfl) ?_
        refine xm_gtake 3 (m' := 15) rfl (by kernel_rfl) Sb.a rfl rfl (rd_fieldAddr rfl) rfl (by kernel_rfl) ?_
        refine xm_gtake 4 (m' := 31) rfl (by kernel_rfl) Sb.a rfl rfl (rd_load1 rfl (Cl.o0 rfl)) rfl (by kernel_rfl) ?_
        refine xm_gtake 5 (m' := 63) rfl (by kernel_rfl) Sb.a rfl rfl (rd_not rfl) rfl (by kernel_rfl) ?_
        refine xm_take 6 (m' := 127) rfl (by kernel_rfl) Sb.a (rd_pickf rfl rfl) rfl (by kernel_rfl) ?_
        refine xm_take 7 (m' := 255) rfl (by kernel_rfl) Sb.a (rd_move rfl) rfl (by kernel_rfl) ?_
        refine xm_gtake 8 (m' := 511) rfl (by kernel_rfl) Sb.a rfl rfl (rd_move rfl) rfl (by kernel_rfl) ?_
        refine xm_gtake 9 (m' := 1023) rfl (by kernel_rfl) Sb.a rfl rfl (rd_move rfl) rfl (by kernel_rfl) ?_
        refine xm_gskip 10 (m' := 2047) rfl (by kernel_rfl) Sb.a rfl rfl rfl rfl (by kernel_rfl) ?_
        refine xm_gskip 11 (m' := 4095) rfl (by kernel_rfl) Sb.a rfl rfl rfl rfl (by kernel_rfl) ?_
        refine xm_gskip 12 (m' := 8191) rfl (by kernel_rfl) Sb.a rfl rfl rfl rfl (by kernel_rfl) ?_
        refine xm_gskip 13 (m' := 16383) rfl (by kernel_rfl) Sb.a rfl rfl rfl rfl (by kernel_rfl) ?_
        refine xm_gskip 14 (m' := 32767) rfl (by kernel_rfl) Sb.a rfl rfl rfl rfl (by kernel_rfl) ?_
        refine xm_gskip 15 (m' := 65535) rfl (by kernel_rfl) Sb.a rfl rfl rfl rfl (by kernel_rfl) ?_
        refine xm_gskip 16 (m' := 131071) rfl (by kernel_rfl) Sb.a rfl rfl rfl rfl (by kernel_rfl) ?_
        refine xm_gskip 17 (m' := 262143) rfl (by kernel_rfl) Sb.a rfl rfl rfl rfl (by kernel_rfl) ?_
        refine xm_gtake 18 (m' := 524287) rfl (by kernel_rfl) Sb.a rfl rfl (rd_pickf rfl rfl) rfl (by kernel_rfl) ?_
        refine xm_take 19 (m' := 1048575) rfl (by kernel_rfl) Sb.a (rd_pickf rfl rfl) rfl (by kernel_rfl) ?_
        refine xm_take 20 (m' := 2097151) rfl (by kernel_rfl) Sb.a (rd_move rfl) rfl (by kernel_rfl) ?_
        refine xm_gtake 21 (m' := 4194303) rfl (by kernel_rfl) Sb.a rfl rfl (rd_move rfl) rfl (by kernel_rfl) ?_
        refine xm_gtake 22 (m' := 8388607) rfl (by kernel_rfl) Sb.a rfl rfl (rd_move rfl) rfl (by kernel_rfl) ?_
        refine xm_gtake 23 (m' := 16777215) rfl (by kernel_rfl) Sb.a rfl rfl (rd_move rfl) rfl (by kernel_rfl) ?_
        refine xm_gtake 24 (m' := 33554431) rfl (by kernel_rfl) Sb.a rfl rfl (rd_indexAddr rfl rfl (by omega) (by omega)) rfl (by kernel_rfl) ?_
        refine xm_gtake 25 (m' := 67108863) rfl (by kernel_rfl) Sb.a rfl rfl (rd_load1 rfl (hcb2 _ (by intro z hz; simp [hz]))) rfl (by kernel_rfl) ?_
        refine xm_gone 26 (m' := 134217727) rfl (by kernel_rfl) rfl rfl rfl (by kernel_rfl) (ef_call rfl (XF.mono (hhas3 _ w (by intro z hz; simp [hz]) ht4) ?_))
        rintro v L' ⟨rfl, rfl⟩
        refine ⟨Sb.a, ?_⟩
        refine xm_gtake 27 (m' := 268435455) rfl (by kernel_rfl) Sb.a rfl rfl (rd_not rfl) rfl (by kernel_rfl) ?_
        refine xm_take 28 (m' := 536870911) rfl (by kernel_rfl) Sb.a (rd_pickf rfl rfl) rfl (by kernel_rfl) ?_
        refine xm_done (by kernel_rfl) ?_
        refine xq_seq ?_
        refine xc_condf rfl ?_
        refine xc_skip ?_
        refine xq_block ?_
        refine xq_seq ?_
        refine xc_region ?_
        refine xo_rd (rd_move rfl) rfl ?_
        refine xo_rd (rd_addn rfl rfl (by omega) (by omega)) rfl ?_
        refine xo_rd (rd_assign rfl) rfl ?_
        refine xo_nil ?_
      all_goals exact xq_roundK rfl (j + 1) (by omega) (by omega) ((List.sublist_append_right l20 _).trans (List.sublist_cons_self _ _)) (by repeat (first | exact keep_nil | refine keep_cons rfl ?_))
    | true =>
      have hne : ¬ gw = w := ht3 rfl
      focus
        refine xc_seq ?_
        refine xc_drawM [0, 1, 2, 4, 12, 20, 36, 68, 128, 384, 512, 1536, 2560, 512, 512, 25088, 33280, 70144, 131712, 262272, 524800, 1048576, 1048576, 1048576, 13631488, 17825792, 36700160, 68157440, 135266304] [0, 1, 2, 4, 12, 20, 36, 68, 128, 384, 512, 1536, 2560, 512, 512, 25088, 33280, 70144, 131712, 262272, 524800, 1048576, 1048576, 1048576, 13631488, 17825792, 36700160, 68157440, 135266304] ((r20, Obj.cells (wEnc true p20 wcs.length k20).toArray 64 (0, 0)) :: (l20 ++ y.blks r G3)) (by kernel_rfl) (by kernel_rfl) (by kernel_rfl) ?_
        refine xm_take 0 (m' := 1) rfl (by kernel_rfl) Sb.a (rd_move rfl) rfl (by kernel_rfl) ?_
        refine xm_take 1 (m' := 3) rfl (by kernel_rfl) Sb.a (rd_not rfl) rfl (by kernel_rfl) ?_
        refine xm_take 2 (m' := 7) rfl (by kernel_rfl) Sb.a (rd_move rfl) rfl (by kernel_rfl) ?_
        refine xm_gtake 3 (m' := 15) rfl (by kernel_rfl) Sb.a rfl rfl (rd_fieldAddr rfl) rfl (by kernel_rfl) ?_
        refine xm_gtake 4 (m' := 31) rfl (by kernel_rfl) Sb.a rfl rfl (rd_load1 rfl (Cl.o0 rfl)) rfl (by kernel_rfl) ?_
        refine xm_gtake 5 (m' := 63) rfl (by kernel_rfl) Sb.a rfl rfl (rd_not rfl) rfl (by kernel_rfl) ?_
        refine xm_take 6 (m' := 127) rfl (by kernel_rfl) Sb.a (rd_pickf rfl rfl) rfl (by kernel_rfl) ?_
        refine xm_take 7 (m' := 255) rfl (by kernel_rfl) Sb.a (rd_move rfl) rfl (by kernel_rfl) ?_
        refine xm_gtake 8 (m' := 511) rfl (by kernel_rfl) Sb.a rfl rfl (rd_move rfl) rfl (by kernel_rfl) ?_
        refine xm_gtake 9 (m' := 1023) rfl (by kernel_rfl) Sb.a rfl rfl (rd_move rfl) rfl (by kernel_rfl) ?_
        refine xm_gtake 10 (m' := 2047) rfl (by kernel_rfl) Sb.a rfl rfl (rd_fieldAddr rfl) rfl (by kernel_rfl) ?_
        refine xm_gtake 11 (m' := 4095) rfl (by kernel_rfl) Sb.a rfl rfl (rd_load1 rfl (hc123 _ (by intro z hz; simp [hz]))) rfl (by kernel_rfl) ?_
        refine xm_gtake 12 (m' := 8191) rfl (by kernel_rfl) Sb.a rfl rfl (rd_convn rfl (by omega) (by omega)) rfl (by kernel_rfl) ?_
        refine xm_gtake 13 (m' := 16383) rfl (by kernel_rfl) Sb.a rfl rfl (rd_move rfl) rfl (by kernel_rfl) ?_
        refine xm_gtake 14 (m' := 32767) rfl (by kernel_rfl) Sb.a rfl rfl (rd_move rfl) rfl (by kernel_rfl) ?_
        refine xm_gtake 15 (m' := 65535) rfl (by kernel_rfl) Sb.a rfl rfl (rd_indexAddr rfl rfl (by omega) (by omega)) rfl (by kernel_rfl) ?_
        refine xm_gtake 16 (m' := 131071) rfl (by kernel_rfl) Sb.a rfl rfl (rd_load1 rfl (hcb2 _ (by intro z hz; simp [hz]))) rfl (by kernel_rfl) ?_
        refine xm_gtake 17 (m' := 262143) rfl (by kernel_rfl) Sb.a rfl rfl (rd_eql rfl rfl) rfl (by kernel_rfl) ?_
        refine xm_gtake 18 (m' := 524287) rfl (by kernel_rfl) Sb.a rfl rfl (rd_pickt rfl rfl) rfl (by kernel_rfl) ?_
        refine xm_take 19 (m' := 1048575) rfl (by kernel_rfl) Sb.a (rd_pickf rfl rfl) rfl (by kernel_rfl) ?_
        refine xm_take 20 (m' := 2097151) rfl (by kernel_rfl) Sb.a (rd_move rfl) rfl (by kernel_rfl) ?_
        refine xm_dec 182 rfl (fun h1 => (by exfalso; omega)) (fun h1 => ?_)
        refine xm_gtake 21 (m' := 4194303) rfl (by kernel_rfl) Sb.a rfl rfl (rd_move rfl) rfl (by kernel_rfl) ?_
        refine xm_gtake 22 (m' := 8388607) rfl (by kernel_rfl) Sb.a rfl rfl (rd_move rfl) rfl (by kernel_rfl) ?_
        refine xm_gtake 23 (m' := 16777215) rfl (by kernel_rfl) Sb.a rfl rfl (rd_move rfl) rfl (by kernel_rfl) ?_
        refine xm_gtake 24 (m' := 33554431) rfl (by kernel_rfl) Sb.a rfl rfl (rd_indexAddr rfl rfl (by omega) (by omega)) rfl (by kernel_rfl) ?_
        refine xm_gtake 25 (m' := 67108863) rfl (by kernel_rfl) Sb.a rfl rfl (rd_load1 rfl (hcb2 _ (by intro z hz; simp [hz]))) rfl (by kernel_rfl) ?_
        refine xm_gone 26 (m' := 134217727) rfl (by kernel_rfl) rfl rfl rfl (by kernel_rfl) (ef_call rfl (XF.mono (hhas3 _ w (by intro z hz; simp [hz]) ht4) ?_))
        rintro v L' ⟨rfl, rfl⟩
        refine ⟨Sb.a, ?_⟩
        refine xm_gtake 27 (m' := 268435455) rfl (by kernel_rfl) Sb.a rfl rfl (rd_not rfl) rfl (by kernel_rfl) ?_
        refine xm_take 28 (m' := 536870911) rfl (by kernel_rfl) Sb.a (rd_pickf rfl rfl) rfl (by kernel_rfl) ?_
        refine xm_done (by kernel_rfl) ?_
        refine xq_seq ?_
        refine xc_condf rfl ?_
        refine xc_skip ?_
        refine xq_block ?_
        refine xq_seq ?_
        refine xc_region ?_
        refine xo_rd (rd_move rfl) rfl ?_
        refine xo_rd (rd_addn rfl rfl (by omega) (by omega)) rfl ?_
        refine xo_rd (rd_assign rfl) rfl ?_
        refine xo_nil ?_
      all_goals exact xq_roundK rfl (j + 1) (by omega) (by omega) ((List.sublist_append_right l20 _).trans (List.sublist_cons_self _ _)) (by repeat (first | exact keep_nil | refine keep_cons rfl ?_))
  focus
    refine xc_seq ?_
    refine xc_seq ?_
    refine xc_region ?_
    refine xo_rd (rd_move rfl) rfl ?_
    refine xo_rd (rd_move rfl) rfl ?_
    refine xo_rd (rd_len rfl) rfl ?_
    refine xo_rd (rd_lss rfl rfl) rfl ?_
    refine xo_nil ?_
    refine xq_seq ?_
    refine xc_dec rfl (fun h1 => (by exfalso; omega)) (fun h1 => ?_)
    refine xc_exit ?_
    refine xq_then_exit ?_
    refine xq_then_exit ?_
    refine xq_block_hit ?_
    refine xq_seq ?_
    refine xc_seq ?_
    refine xc_region ?_
    refine xo_rd (rd_assign rfl) rfl ?_
    refine xo_nil ?_
    refine xq_seq ?_
    refine xc_block ?_
  refine xc_loopK (ι := Nat) (fun j => j ≤ ids.length) (fun j => ids.length - j) (fun j => [(0, .slice (some ⟨b, o, none⟩) n c), (3, .pointer (some ⟨r, 0, none⟩)), (5, .int .u64 (now + a.by')), (6, .int .i64 i), (12, .pointer (some ⟨r12, 0, none⟩)), (13, .bool bq1), (14, .slice p14 ids.length k14), (18, .slice p18 crowd.length k18), (22, .int .i64 j)]) 0 (Nat.zero_le _) (by repeat (first | exact keep_nil | refine keep_cons rfl ?_)) ?_
  intro j hj
  by_cases hjn : j < ids.length
  case neg =>
    focus
      refine xc_seq ?_
      refine xc_seq ?_
      refine xc_region ?_
      refine xo_rd (rd_move rfl) rfl ?_
      refine xo_rd (rd_move rfl) rfl ?_
      refine xo_rd (rd_len rfl) rfl ?_
      refine xo_rd (rd_lss rfl rfl) rfl ?_
      refine xo_nil ?_
      refine xq_seq ?_
      refine xc_dec rfl (fun h1 => (by exfalso; omega)) (fun h1 => ?_)
      refine xc_exit ?_
      refine xq_then_exit ?_
      refine xq_then_exit ?_
      refine xq_block_hit ?_
      refine xq_block ?_
      refine xq_seq ?_
      refine xc_region ?_
      refine xo_rd (rd_move rfl) rfl ?_
      refine xo_rd (rd_addn rfl rfl (by omega) (by omega)) rfl ?_
      refine xo_rd (rd_assign rfl) rfl ?_
      refine xo_nil ?_
    exact xq_sub (by have := y.blks_sub r G3 []; rwa [List.append_nil] at this) (xq_roundI (⟨i + 1, y, now + a.by'⟩ : FiS) ⟨by dsimp only; omega, hy, hyinv, by dsimp only; omega, by dsimp only; omega⟩ (by dsimp only; omega) rfl (by repeat (first | exact keep_nil | refine keep_cons rfl ?_)))
  obtain ⟨b14, o14, hpb, hcb⟩ := (r143 _ fun _ h => h).int (i := j) (by omega)
  obtain ⟨ht1, ht2, ht3, ht4⟩ := hidt ids[j] (List.getElem_mem _)
  generalize hze : ids[j] = w at *
  have hcb2 : ∀ L', (∀ z, z ∈ y.blks r G3 → z ∈ L') → Cl W L' b14 (o14 + (j : Int).toNat * 1) (.int .i64 w) := fun L' h => hcb.mono h
  have hwt := xf_WtK (W := W) (L := G3) r y hy w (wgA y.was w) true rfl ht1
  generalize wgA y.was w = wa at *
  subst hpb
  focus
    refine xc_seq ?_
    refine xc_seq ?_
    refine xc_region ?_
    refine xo_rd (rd_move rfl) rfl ?_
    refine xo_rd (rd_move rfl) rfl ?_
    refine xo_rd (rd_len rfl) rfl ?_
    refine xo_rd (rd_lss rfl rfl) rfl ?_
    refine xo_nil ?_
    refine xq_seq ?_
    refine xc_dec rfl (fun h1 => ?_) (fun h1 => (by exfalso; omega))
    refine xc_skip ?_
    refine xq_seq ?_
    refine xc_seq ?_
    refine xc_block ?_
    refine xc_seq ?_
    refine xc_region ?_
    refine xo_rd (rd_move rfl) rfl ?_
    refine xo_rd (rd_move rfl) rfl ?_
    refine xo_rd (rd_move rfl) rfl ?_
    refine xo_rd (rd_indexAddr rfl rfl (by omega) (by omega)) rfl ?_
    refine xo_rd (rd_load1 rfl (hcb2 _ (by intro z hz; simp [hz]))) rfl ?_
    refine xo_ef rfl (ef_call rfl (XF.mono (hwt) ?_))
    rintro v L' ⟨p23, k23, l23, rfl, hO23, rfl⟩
    refine xo_rd (rd_move rfl) rfl ?_
    refine xo_rd (rd_extract rfl rfl) rfl ?_
    refine xo_rd (rd_extract rfl rfl) rfl ?_
    refine xo_ef rfl (ef_alloc fun r23 => ?_)
    refine xo_ef rfl (ef_storeB [] _ rfl rfl (by first | rfl | assumption) rfl rfl rfl ?_)
    refine xo_rd (rd_assign rfl) rfl ?_
    refine xo_nil ?_
    refine xq_seq ?_
  obtain ⟨wid, wct, wcs⟩ := wa
  dsimp only at ht2 ht3 ht4 hO23
  have hhc : ∀ L' (s : Bool), decide (w ∈ crowd) = s → (∀ u, u ∈ y.blks r G3 → u ∈ L') → XF Tryz.prog W 54 #[.slice p18 crowd.length k18, .int .i64 w] L' (fun v L'' => v = .bool s ∧ L'' = L') := fun L' s hs h => by
    have := xf_has (W := W) (L := L') p18 crowd.length k18 crowd w rfl (r18 _ h) (by omega)
    rwa [hs] at this
  refine xc_join (ι := Unit) (fun _ => True) (fun _ => (r23, Obj.cells (wEnc wct p23 wcs.length k23).toArray 64 (0, 0)) :: (l23 ++ y.blks r G3)) (fun _ => [(0, .slice (some ⟨b, o, none⟩) n c), (3, .pointer (some ⟨r, 0, none⟩)), (5, .int .u64 (now + a.by')), (6, .int .i64 i), (12, .pointer (some ⟨r12, 0, none⟩)), (13, .bool bq1), (14, .slice (some ⟨b14, o14, none⟩) ids.length k14), (18, .slice p18 crowd.length k18), (22, .int .i64 j), (23, .pointer (some ⟨r23, 0, none⟩))]) ?_ ?_
  · cases wct with
    | false =>
      focus
        refine xc_seq ?_
        refine xc_drawM [0, 1, 2, 4, 12, 20, 32, 32, 32, 416, 544, 1120, 2080, 4132, 10244, 16384, 49152, 65536, 196608, 327680, 65536, 65536, 3211264, 4259840, 8978432, 16859136, 33570816, 67125252, 134217732] [0, 1, 2, 4, 12, 20, 32, 32, 32, 416, 544, 1120, 2080, 4132, 10244, 16384, 49152, 65536, 196608, 327680, 65536, 65536, 3211264, 4259840, 8978432, 16859136, 33570816, 67125252, 134217732] ((r23, Obj.cells (wEnc false p23 wcs.length k23).toArray 64 (0, 0)) :: (l23 ++ y.blks r G3)) (by kernel_rfl) (by kernel_rfl) (by kernel_rfl) ?_
        refine xm_take 0 (m' := 1) rfl (by kernel_rfl) Sb.a (rd_move rfl) rfl (by kernel_rfl) ?_
        refine xm_take 1 (m' := 3) rfl (by kernel_rfl) Sb.a (rd_not rfl) rfl (by kernel_rfl) ?_
        refine xm_take 2 (m' := 7) rfl (by kernel_rfl) Sb.a (rd_move rfl) rfl (by kernel_rfl) ?_
        refine xm_gtake 3 (m' := 15) rfl (by kernel_rfl) Sb.a rfl rfl (rd_fieldAddr rfl) rfl (by kernel_rfl) ?_
        refine xm_gtake 4 (m' := 31) rfl (by kernel_rfl) Sb.a rfl rfl (rd_load1 rfl (Cl.o0 rfl)) rfl (by kernel_rfl) ?_
        refine xm_gtake 5 (m' := 63) rfl (by kernel_rfl) Sb.a rfl rfl (rd_move rfl) rfl (by kernel_rfl) ?_
        refine xm_gskip 6 (m' := 127) rfl (by kernel_rfl) Sb.a rfl rfl rfl rfl (by kernel_rfl) ?_
        refine xm_gskip 7 (m' := 255) rfl (by kernel_rfl) Sb.a rfl rfl rfl rfl (by kernel_rfl) ?_
        refine xm_gskip 8 (m' := 511) rfl (by kernel_rfl) Sb.a rfl rfl rfl rfl (by kernel_rfl) ?_
        refine xm_gskip 9 (m' := 1023) rfl (by kernel_rfl) Sb.a rfl rfl rfl rfl (by kernel_rfl) ?_
        refine xm_gskip 10 (m' := 2047) rfl (by kernel_rfl) Sb.a rfl rfl rfl rfl (by kernel_rfl) ?_
        refine xm_gskip 11 (m' := 4095) rfl (by kernel_rfl) Sb.a rfl rfl rfl rfl (by kernel_rfl) ?_
        refine xm_gskip 12 (m' := 8191) rfl (by kernel_rfl) Sb.a rfl rfl rfl rfl (by kernel_rfl) ?_
        refine xm_gtake 13 (m' := 16383) rfl (by kernel_rfl) Sb.a rfl rfl (rd_pickf rfl rfl) rfl (by kernel_rfl) ?_
        refine xm_gtake 14 (m' := 32767) rfl (by kernel_rfl) Sb.a rfl rfl (rd_move rfl) rfl (by kernel_rfl) ?_
        refine xm_gskip 15 (m' := 65535) rfl (by kernel_rfl) Sb.a rfl rfl rfl rfl (by kernel_rfl) ?_
        refine xm_gskip 16 (m' := 131071) rfl (by kernel_rfl) Sb.a rfl rfl rfl rfl (by kernel_rfl) ?_
        refine xm_gskipU 17 (m' := 262143) rfl (by kernel_rfl) Sb.a rfl rfl rfl (by kernel_rfl) ?_
        refine xm_gskipU 18 (m' := 524287) rfl (by kernel_rfl) Sb.a rfl rfl rfl (by kernel_rfl) ?_
        refine xm_gskipU 19 (m' := 1048575) rfl (by kernel_rfl) Sb.a rfl rfl rfl (by kernel_rfl) ?_
        refine xm_gskipU 20 (m' := 2097151) rfl (by kernel_rfl) Sb.a rfl rfl rfl (by kernel_rfl) ?_
        refine xm_gskipU 21 (m' := 4194303) rfl (by kernel_rfl) Sb.a rfl rfl rfl (by kernel_rfl) ?_
        refine xm_gskipU 22 (m' := 8388607) rfl (by kernel_rfl) Sb.a rfl rfl rfl (by kernel_rfl) ?_
        refine xm_gskipU 23 (m' := 16777215) rfl (by kernel_rfl) Sb.a rfl rfl rfl (by kernel_rfl) ?_
        refine xm_gskipU 24 (m' := 33554431) rfl (by kernel_rfl) Sb.a rfl rfl rfl (by kernel_rfl) ?_
        refine xm_gskip 25 (m' := 67108863) rfl (by kernel_rfl) Sb.a rfl rfl rfl rfl (by kernel_rfl) ?_
        refine xm_gskip 26 (m' := 134217727) rfl (by kernel_rfl) Sb.a rfl rfl rfl rfl (by kernel_rfl) ?_
        refine xm_gtake 27 (m' := 268435455) rfl (by kernel_rfl) Sb.a rfl rfl (rd_pickf rfl rfl) rfl (by kernel_rfl) ?_
        refine xm_take 28 (m' := 536870911) rfl (by kernel_rfl) Sb.a (rd_pickf rfl rfl) rfl (by kernel_rfl) ?_
        refine xm_done (by kernel_rfl) ?_
        refine xq_seq ?_
        refine xc_condf rfl ?_
        refine xc_skip ?_
      all_goals exact xq_joined () trivial rfl (by repeat (first | exact keep_nil | refine keep_cons rfl ?_))
    | true =>
      by_cases hbb : bq1 = true ∧ gw = w
      · obtain ⟨rfl, rfl⟩ := hbb
        obtain ⟨s, hs⟩ : ∃ s, decide (gw ∈ crowd) = s := ⟨_, rfl⟩
        cases s with
        | true =>
          focus
            refine xc_seq ?_
            refine xc_drawM [0, 1, 2, 4, 12, 20, 32, 32, 32, 416, 544, 1120, 2080, 4132, 10244, 16384, 49152, 65536, 196608, 327680, 65536, 65536, 3211264, 4259840, 8978432, 16859136, 33570816, 67125252, 134217732] [0, 1, 2, 4, 12, 20, 32, 32, 32, 416, 544, 1120, 2080, 4132, 10244, 16384, 49152, 65536, 196608, 327680, 65536, 65536, 3211264, 4259840, 8978432, 16859136, 33570816, 67125252, 134217732] ((r23, Obj.cells (wEnc true p23 wcs.length k23).toArray 64 (0, 0)) :: (l23 ++ y.blks r G3)) (by kernel_rfl) (by kernel_rfl) (by kernel_rfl) ?_
            refine xm_take 0 (m' := 1) rfl (by kernel_rfl) Sb.a (rd_move rfl) rfl (by kernel_rfl) ?_
            refine xm_take 1 (m' := 3) rfl (by kernel_rfl) Sb.a (rd_not rfl) rfl (by kernel_rfl) ?_
            refine xm_take 2 (m' := 7) rfl (by kernel_rfl) Sb.a (rd_move rfl) rfl (by kernel_rfl) ?_
            refine xm_gtake 3 (m' := 15) rfl (by kernel_rfl) Sb.a rfl rfl (rd_fieldAddr rfl) rfl (by kernel_rfl) ?_
            refine xm_gtake 4 (m' := 31) rfl (by kernel_rfl) Sb.a rfl rfl (rd_load1 rfl (Cl.o0 rfl)) rfl (by kernel_rfl) ?_
            refine xm_gtake 5 (m' := 63) rfl (by kernel_rfl) Sb.a rfl rfl (rd_move rfl) rfl (by kernel_rfl) ?_
            refine xm_gtake 6 (m' := 127) rfl (by kernel_rfl) Sb.a rfl rfl (rd_move rfl) rfl (by kernel_rfl) ?_
            refine xm_gtake 7 (m' := 255) rfl (by kernel_rfl) Sb.a rfl rfl (rd_move rfl) rfl (by kernel_rfl) ?_
            refine xm_gtake 8 (m' := 511) rfl (by kernel_rfl) Sb.a rfl rfl (rd_move rfl) rfl (by kernel_rfl) ?_
            refine xm_gtake 9 (m' := 1023) rfl (by kernel_rfl) Sb.a rfl rfl (rd_indexAddr rfl rfl (by omega) (by omega)) rfl (by kernel_rfl) ?_
            refine xm_gtake 10 (m' := 2047) rfl (by kernel_rfl) Sb.a rfl rfl (rd_load1 rfl (hcb2 _ (by intro z hz; simp [hz]))) rfl (by kernel_rfl) ?_
            refine xm_gone 11 (m' := 4095) rfl (by kernel_rfl) rfl rfl rfl (by kernel_rfl) (ef_call rfl (XF.mono (hhc _ true hs (by intro z hz; simp [hz])) ?_))
            rintro v L' ⟨rfl, rfl⟩
            refine ⟨Sb.a, ?_⟩
            refine xm_gtake 12 (m' := 8191) rfl (by kernel_rfl) Sb.a rfl rfl (rd_not rfl) rfl (by kernel_rfl) ?_
            refine xm_gtake 13 (m' := 16383) rfl (by kernel_rfl) Sb.a rfl rfl (rd_pickt rfl rfl) rfl (by kernel_rfl) ?_
            refine xm_gtake 14 (m' := 32767) rfl (by kernel_rfl) Sb.a rfl rfl (rd_move rfl) rfl (by kernel_rfl) ?_
            refine xm_gskip 15 (m' := 65535) rfl (by kernel_rfl) Sb.a rfl rfl rfl rfl (by kernel_rfl) ?_
            refine xm_gskip 16 (m' := 131071) rfl (by kernel_rfl) Sb.a rfl rfl rfl rfl (by kernel_rfl) ?_
            refine xm_gskipU 17 (m' := 262143) rfl (by kernel_rfl) Sb.a rfl rfl rfl (by kernel_rfl) ?_
            refine xm_gskipU 18 (m' := 524287) rfl (by kernel_rfl) Sb.a rfl rfl rfl (by kernel_rfl) ?_
            refine xm_gskipU 19 (m' := 1048575) rfl (by kernel_rfl) Sb.a rfl rfl rfl (by kernel_rfl) ?_
            refine xm_gskipU 20 (m' := 2097151) rfl (by kernel_rfl) Sb.a rfl rfl rfl (by kernel_rfl) ?_
            refine xm_gskipU 21 (m' := 4194303) rfl (by kernel_rfl) Sb.a rfl rfl rfl (by kernel_rfl) ?_
            refine xm_gskipU 22 (m' := 8388607) rfl (by kernel_rfl) Sb.a rfl rfl rfl (by kernel_rfl) ?_
            refine xm_gskipU 23 (m' := 16777215) rfl (by kernel_rfl) Sb.a rfl rfl rfl (by kernel_rfl) ?_
            refine xm_gskipU 24 (m' := 33554431) rfl (by kernel_rfl) Sb.a rfl rfl rfl (by kernel_rfl) ?_
            refine xm_gskip 25 (m' := 67108863) rfl (by kernel_rfl) Sb.a rfl rfl rfl rfl (by kernel_rfl) ?_
            refine xm_gskip 26 (m' := 134217727) rfl (by kernel_rfl) Sb.a rfl rfl rfl rfl (by kernel_rfl) ?_
            refine xm_gtake 27 (m' := 268435455) rfl (by kernel_rfl) Sb.a rfl rfl (rd_pickf rfl rfl) rfl (by kernel_rfl) ?_
            refine xm_take 28 (m' := 536870911) rfl (by kernel_rfl) Sb.a (rd_pickf rfl rfl) rfl (by kernel_rfl) ?_
            refine xm_done (by kernel_rfl) ?_
            refine xq_seq ?_
            refine xc_condf rfl ?_
            refine xc_skip ?_
          all_goals exact xq_joined () trivial rfl (by repeat (first | exact keep_nil | refine keep_cons rfl ?_))
        | false =>
          focus
            refine xc_seq ?_
            refine xc_drawM [0, 1, 2, 4, 12, 20, 32, 32, 32, 416, 544, 1120, 2080, 4132, 10244, 16384, 49152, 65536, 196608, 327680, 65536, 65536, 3211264, 4259840, 8978432, 16859136, 33570816, 67125252, 134217732] [0, 1, 2, 4, 12, 20, 32, 32, 32, 416, 544, 1120, 2080, 4132, 10244, 16384, 49152, 65536, 196608, 327680, 65536, 65536, 3211264, 4259840, 8978432, 16859136, 33570816, 67125252, 134217732] ((r23, Obj.cells (wEnc true p23 wcs.length k23).toArray 64 (0, 0)) :: (l23 ++ y.blks r G3)) (by kernel_rfl) (by kernel_rfl) (by kernel_rfl) ?_
            refine xm_take 0 (m' := 1) rfl (by kernel_rfl) Sb.a (rd_move rfl) rfl (by kernel_rfl) ?_
            refine xm_take 1 (m' := 3) rfl (by kernel_rfl) Sb.a (rd_not rfl) rfl (by kernel_rfl) ?_
            refine xm_take 2 (m' := 7) rfl (by kernel_rfl) Sb.a (rd_move rfl) rfl (by kernel_rfl) ?_
            refine xm_gtake 3 (m' := 15) rfl (by kernel_rfl) Sb.a rfl rfl (rd_fieldAddr rfl) rfl (by kernel_rfl) ?_
            refine xm_gtake 4 (m' := 31) rfl (by kernel_rfl) Sb.a rfl rfl (rd_load1 rfl (Cl.o0 rfl)) rfl (by kernel_rfl) ?_
            refine xm_gtake 5 (m' := 63) rfl (by kernel_rfl) Sb.a rfl rfl (rd_move rfl) rfl (by kernel_rfl) ?_
            refine xm_gtake 6 (m' := 127) rfl (by kernel_rfl) Sb.a rfl rfl (rd_move rfl) rfl (by kernel_rfl) ?_
            refine xm_gtake 7 (m' := 255) rfl (by kernel_rfl) Sb.a rfl rfl (rd_move rfl) rfl (by kernel_rfl) ?_
            refine xm_gtake 8 (m' := 511) rfl (by kernel_rfl) Sb.a rfl rfl (rd_move rfl) rfl (by kernel_rfl) ?_
            refine xm_gtake 9 (m' := 1023) rfl (by kernel_rfl) Sb.a rfl rfl (rd_indexAddr rfl rfl (by omega) (by omega)) rfl (by kernel_rfl) ?_
            refine xm_gtake 10 (m' := 2047) rfl (by kernel_rfl) Sb.a rfl rfl (rd_load1 rfl (hcb2 _ (by intro z hz; simp [hz]))) rfl (by kernel_rfl) ?_
            refine xm_gone 11 (m' := 4095) rfl (by kernel_rfl) rfl rfl rfl (by kernel_rfl) (ef_call rfl (XF.mono (hhc _ false hs (by intro z hz; simp [hz])) ?_))
            rintro v L' ⟨rfl, rfl⟩
            refine ⟨Sb.a, ?_⟩
            refine xm_gtake 12 (m' := 8191) rfl (by kernel_rfl) Sb.a rfl rfl (rd_not rfl) rfl (by kernel_rfl) ?_
            refine xm_gtake 13 (m' := 16383) rfl (by kernel_rfl) Sb.a rfl rfl (rd_pickt rfl rfl) rfl (by kernel_rfl) ?_
            refine xm_gtake 14 (m' := 32767) rfl (by kernel_rfl) Sb.a rfl rfl (rd_move rfl) rfl (by kernel_rfl) ?_
            refine xm_gtake 15 (m' := 65535) rfl (by kernel_rfl) Sb.a rfl rfl (rd_move rfl) rfl (by kernel_rfl) ?_
            refine xm_gtake 16 (m' := 131071) rfl (by kernel_rfl) Sb.a rfl rfl (rd_move rfl) rfl (by kernel_rfl) ?_
            refine xm_gtake 17 (m' := 262143) rfl (by kernel_rfl) Sb.a rfl rfl (rd_fieldAddr rfl) rfl (by kernel_rfl) ?_
            refine xm_gtake 18 (m' := 524287) rfl (by kernel_rfl) Sb.a rfl rfl (rd_load1 rfl (hc123 _ (by intro z hz; simp [hz]))) rfl (by kernel_rfl) ?_
            refine xm_gtake 19 (m' := 1048575) rfl (by kernel_rfl) Sb.a rfl rfl (rd_convn rfl (by omega) (by omega)) rfl (by kernel_rfl) ?_
            refine xm_gtake 20 (m' := 2097151) rfl (by kernel_rfl) Sb.a rfl rfl (rd_move rfl) rfl (by kernel_rfl) ?_
            refine xm_gtake 21 (m' := 4194303) rfl (by kernel_rfl) Sb.a rfl rfl (rd_move rfl) rfl (by kernel_rfl) ?_
            refine xm_gtake 22 (m' := 8388607) rfl (by kernel_rfl) Sb.a rfl rfl (rd_indexAddr rfl rfl (by omega) (by omega)) rfl (by kernel_rfl) ?_
            refine xm_gtake 23 (m' := 16777215) rfl (by kernel_rfl) Sb.a rfl rfl (rd_load1 rfl (hcb2 _ (by intro z hz; simp [hz]))) rfl (by kernel_rfl) ?_
            refine xm_gtake 24 (m' := 33554431) rfl (by kernel_rfl) Sb.a rfl rfl (rd_eql rfl rfl) rfl (by kernel_rfl) ?_
            refine xm_gtake 25 (m' := 67108863) rfl (by kernel_rfl) Sb.a rfl rfl (rd_pickt rfl rfl) rfl (by kernel_rfl) ?_
            refine xm_gtake 26 (m' := 134217727) rfl (by kernel_rfl) Sb.a rfl rfl (rd_not rfl) rfl (by kernel_rfl) ?_
            refine xm_gtake 27 (m' := 268435455) rfl (by kernel_rfl) Sb.a rfl rfl (rd_pickt rfl rfl) rfl (by kernel_rfl) ?_
            refine xm_take 28 (m' := 536870911) rfl (by kernel_rfl) Sb.a (rd_pickf rfl rfl) rfl (by kernel_rfl) ?_
            refine xm_done (by kernel_rfl) ?_
            refine xq_seq ?_
            refine xc_ndec rfl (fun h => absurd rfl h) (fun _ => ?_)
            refine xc_skip ?_
          all_goals exact xq_joined () trivial rfl (by repeat (first | exact keep_nil | refine keep_cons rfl ?_))
      · have hwc := ht2 rfl hbb
        focus
          refine xc_seq ?_
          refine xc_drawM [0, 1, 2, 4, 12, 20, 32, 32, 32, 416, 544, 1120, 2080, 4132, 10244, 16384, 49152, 65536, 196608, 327680, 65536, 65536, 3211264, 4259840, 8978432, 16859136, 33570816, 67125252, 134217732] [0, 1, 2, 4, 12, 20, 32, 32, 32, 416, 544, 1120, 2080, 4132, 10244, 16384, 49152, 65536, 196608, 327680, 65536, 65536, 3211264, 4259840, 8978432, 16859136, 33570816, 67125252, 134217732] ((r23, Obj.cells (wEnc true p23 wcs.length k23).toArray 64 (0, 0)) :: (l23 ++ y.blks r G3)) (by kernel_rfl) (by kernel_rfl) (by kernel_rfl) ?_
          refine xm_take 0 (m' := 1) rfl (by kernel_rfl) Sb.a (rd_move rfl) rfl (by kernel_rfl) ?_
          refine xm_take 1 (m' := 3) rfl (by kernel_rfl) Sb.a (rd_not rfl) rfl (by kernel_rfl) ?_
          refine xm_take 2 (m' := 7) rfl (by kernel_rfl) Sb.a (rd_move rfl) rfl (by kernel_rfl) ?_
          refine xm_gtake 3 (m' := 15) rfl (by kernel_rfl) Sb.a rfl rfl (rd_fieldAddr rfl) rfl (by kernel_rfl) ?_
          refine xm_gtake 4 (m' := 31) rfl (by kernel_rfl) Sb.a rfl rfl (rd_load1 rfl (Cl.o0 rfl)) rfl (by kernel_rfl) ?_
          refine xm_gtake 5 (m' := 63) rfl (by kernel_rfl) Sb.a rfl rfl (rd_move rfl) rfl (by kernel_rfl) ?_
          refine xm_gtake 6 (m' := 127) rfl (by kernel_rfl) Sb.a rfl rfl (rd_move rfl) rfl (by kernel_rfl) ?_
          refine xm_gtake 7 (m' := 255) rfl (by kernel_rfl) Sb.a rfl rfl (rd_move rfl) rfl (by kernel_rfl) ?_
          refine xm_gtake 8 (m' := 511) rfl (by kernel_rfl) Sb.a rfl rfl (rd_move rfl) rfl (by kernel_rfl) ?_
          refine xm_gtake 9 (m' := 1023) rfl (by kernel_rfl) Sb.a rfl rfl (rd_indexAddr rfl rfl (by omega) (by omega)) rfl (by kernel_rfl) ?_
          refine xm_gtake 10 (m' := 2047) rfl (by kernel_rfl) Sb.a rfl rfl (rd_load1 rfl (hcb2 _ (by intro z hz; simp [hz]))) rfl (by kernel_rfl) ?_
          refine xm_gone 11 (m' := 4095) rfl (by kernel_rfl) rfl rfl rfl (by kernel_rfl) (ef_call rfl (XF.mono (hhc _ true (decide_eq_true hwc) (by intro z hz; simp [hz])) ?_))
          rintro v L' ⟨rfl, rfl⟩
          refine ⟨Sb.a, ?_⟩
          refine xm_gtake 12 (m' := 8191) rfl (by kernel_rfl) Sb.a rfl rfl (rd_not rfl) rfl (by kernel_rfl) ?_
          refine xm_gtake 13 (m' := 16383) rfl (by kernel_rfl) Sb.a rfl rfl (rd_pickt rfl rfl) rfl (by kernel_rfl) ?_
          refine xm_gtake 14 (m' := 32767) rfl (by kernel_rfl) Sb.a rfl rfl (rd_move rfl) rfl (by kernel_rfl) ?_
          refine xm_gskip 15 (m' := 65535) rfl (by kernel_rfl) Sb.a rfl rfl rfl rfl (by kernel_rfl) ?_
          refine xm_gskip 16 (m' := 131071) rfl (by kernel_rfl) Sb.a rfl rfl rfl rfl (by kernel_rfl) ?_
          refine xm_gskipU 17 (m' := 262143) rfl (by kernel_rfl) Sb.a rfl rfl rfl (by kernel_rfl) ?_
          refine xm_gskipU 18 (m' := 524287) rfl (by kernel_rfl) Sb.a rfl rfl rfl (by kernel_rfl) ?_
          refine xm_gskipU 19 (m' := 1048575) rfl (by kernel_rfl) Sb.a rfl rfl rfl (by kernel_rfl) ?_
          refine xm_gskipU 20 (m' := 2097151) rfl (by kernel_rfl) Sb.a rfl rfl rfl (by kernel_rfl) ?_
          refine xm_gskipU 21 (m' := 4194303) rfl (by kernel_rfl) Sb.a rfl rfl rfl (by kernel_rfl) ?_
          refine xm_gskipU 22 (m' := 8388607) rfl (by kernel_rfl) Sb.a rfl rfl rfl (by kernel_rfl) ?_
          refine xm_gskipU 23 (m' := 16777215) rfl (by kernel_rfl) Sb.a rfl rfl rfl (by kernel_rfl) ?_
          refine xm_gskipU 24 (m' := 33554431) rfl (by kernel_rfl) Sb.a rfl rfl rfl (by kernel_rfl) ?_
          refine xm_gskip 25 (m' := 67108863) rfl (by kernel_rfl) Sb.a rfl rfl rfl rfl (by kernel_rfl) ?_
          refine xm_gskip 26 (m' := 134217727) rfl (by kernel_rfl) Sb.a rfl rfl rfl rfl (by kernel_rfl) ?_
          refine xm_gtake 27 (m' := 268435455) rfl (by kernel_rfl) Sb.a rfl rfl (rd_pickf rfl rfl) rfl (by kernel_rfl) ?_
          refine xm_take 28 (m' := 536870911) rfl (by kernel_rfl) Sb.a (rd_pickf rfl rfl) rfl (by kernel_rfl) ?_
          refine xm_done (by kernel_rfl) ?_
          refine xq_seq ?_
          refine xc_condf rfl ?_
          refine xc_skip ?_
        all_goals exact xq_joined () trivial rfl (by repeat (first | exact keep_nil | refine keep_cons rfl ?_))
  rintro ⟨⟩ _
  have hwl : wcs.length ≤ 6 := by
    have h1 : wcs.length ≤ ids.length := nodup_le ht3 fun c hc => (ht4 c hc).1
    omega
  focus
    refine xc_seq ?_
    refine xc_region ?_
    refine xo_rd (rd_assign rfl) rfl ?_
    refine xo_nil ?_
    refine xq_seq ?_
    refine xc_block ?_
  refine xc_loopK (ι := Nat) (fun q => q ≤ wcs.length) (fun q => wcs.length - q) (fun q => [(0, .slice (some ⟨b, o, none⟩) n c), (3, .pointer (some ⟨r, 0, none⟩)), (5, .int .u64 (now + a.by')), (6, .int .i64 i), (12, .pointer (some ⟨r12, 0, none⟩)), (13, .bool bq1), (14, .slice (some ⟨b14, o14, none⟩) ids.length k14), (18, .slice p18 crowd.length k18), (22, .int .i64 j), (23, .pointer (some ⟨r23, 0, none⟩))] ++ [(25, .int .i64 q)]) 0 (Nat.zero_le _) (by repeat (first | exact keep_nil | refine keep_cons rfl ?_)) ?_
  intro q hq
  by_cases hqn : q < wcs.length
  case neg =>
    focus
      refine xc_seq ?_
      refine xc_seq ?_
      refine xc_region ?_
      refine xo_rd (rd_move rfl) rfl ?_
      refine xo_rd (rd_fieldAddr rfl) rfl ?_
      refine xo_rd (rd_load1 rfl (Cl.o0 rfl)) rfl ?_
      refine xo_rd (rd_len rfl) rfl ?_
      refine xo_rd (rd_lss rfl rfl) rfl ?_
      refine xo_nil ?_
      refine xq_seq ?_
      refine xc_dec rfl (fun h1 => (by exfalso; omega)) (fun h1 => ?_)
      refine xc_exit ?_
      refine xq_then_exit ?_
      refine xq_then_exit ?_
      refine xq_block_hit ?_
      refine xq_block ?_
      refine xq_seq ?_
      refine xc_region ?_
      refine xo_rd (rd_move rfl) rfl ?_
      refine xo_rd (rd_addn rfl rfl (by omega) (by omega)) rfl ?_
      refine xo_rd (rd_assign rfl) rfl ?_
      refine xo_nil ?_
    exact xq_roundK rfl (j + 1) (by omega) (by omega) ((List.sublist_append_right l23 _).trans (List.sublist_cons_self _ _)) (by repeat (first | exact keep_nil | refine keep_cons rfl ?_))
  have hr23 : Rs W ((r23, Obj.cells (wEnc wct p23 wcs.length k23).toArray 64 (0, 0)) :: (l23 ++ y.blks r G3)) p23 (ints .i64 wcs) := hO23.rs (by intro z hz; simp [hz])
  obtain ⟨b23, o23, hpb, hcc⟩ := hr23.int (i := q) (by omega)
  subst hpb
  obtain ⟨hc1, hc2, hc3⟩ := ht4 wcs[q] (List.getElem_mem _)
  have hc4 : wcs[q] ∉ wcs.drop (q + 1) := by
    intro hm
    have h1 := List.nodup_append.1 (List.take_append_drop (q + 1) wcs ▸ ht3)
    exact h1.2.2 _ (List.mem_take_iff_getElem.2 ⟨q, by omega, rfl⟩) _ hm rfl
  have hdl : (wcs.drop (q + 1)).length = wcs.length - (q + 1) := List.length_drop ..
  generalize wcs[q] = cc at *
  have hk23 := hO23.cap.2
  have hcc2 : ∀ L', (∀ z, z ∈ (r23, Obj.cells (wEnc wct (some ⟨b23, o23, none⟩) wcs.length k23).toArray 64 (0, 0)) :: (l23 ++ y.blks r G3) → z ∈ L') → Cl W L' b23 (o23 + (q : Int).toNat * 1) (.int .i64 cc) := fun L' h => hcc.mono h
  have hvw : XF Tryz.prog W 19 #[.pointer (some ⟨r, 0, none⟩), .int .i64 cc] ((r23, Obj.cells (wEnc wct (some ⟨b23, o23, none⟩) wcs.length k23).toArray 64 (0, 0)) :: (l23 ++ y.blks r G3)) (fun v L' => ∃ p k lb, v = .slice p (ids.filter (viewP y.was cc)).length k ∧ SlQ 1 3 (.slice p (ids.filter (viewP y.was cc)).length k) (ids.filter (viewP y.was cc)).length (ints .i64 (ids.filter (viewP y.was cc))) lb ∧ L' = (r23, Obj.cells (wEnc wct (some ⟨b23, o23, none⟩) wcs.length k23).toArray 64 (0, 0)) :: (l23 ++ (lb ++ y.blks r G3))) :=
    ((xf_VwK (W := W) (L := (r23, Obj.cells (wEnc wct (some ⟨b23, o23, none⟩) wcs.length k23).toArray 64 (0, 0)) :: l23 ++ G3) r y hy cc (ids.filter (viewP y.was cc)) (by rw [← hids]; rfl)).perm (y.front r (_ :: l23) G3)).mapK fun v L' ⟨p, k, lb, hv, hO, hL⟩ => ⟨_, hL ▸ ((y.front r ((r23, Obj.cells (wEnc wct (some ⟨b23, o23, none⟩) wcs.length k23).toArray 64 (0, 0)) :: l23) G3).symm.append_left lb).trans (perm_vw lb l23 _), p, k, lb, hv, hO, rfl⟩
  obtain ⟨vw, hvwe⟩ : ∃ vw, ids.filter (viewP y.was cc) = vw := ⟨_, rfl⟩
  have hvl : vw.length ≤ 6 := by rw [← hvwe]; exact Nat.le_trans (List.length_filter_le ..) hil
  rw [hvwe] at hvw hc3
  have hrd : ∀ L', (∀ z, z ∈ (r23, Obj.cells (wEnc wct (some ⟨b23, o23, none⟩) wcs.length k23).toArray 64 (0, 0)) :: (l23 ++ y.blks r G3) → z ∈ L') → XF Tryz.prog W 54 #[.slice (slp (some ⟨b23, o23, none⟩) k23 (q + 1) 1) (wcs.length - (q + 1)) (k23 - (q + 1)), .int .i64 cc] L' (fun v L'' => v = .bool false ∧ L'' = L') := fun L' h => by
    have h1 := (hr23.mono h).slp k23 (q + 1) (by simp [ints]; omega)
    rw [← ints_drop] at h1
    have := xf_has (W := W) (L := L') (slp (some ⟨b23, o23, none⟩) k23 (q + 1) 1) (wcs.length - (q + 1)) (k23 - (q + 1)) (wcs.drop (q + 1)) cc hdl h1 (by omega)
    rwa [decide_eq_false hc4] at this
  have hvh : ∀ L' p k (_ : Rs W L' p (ints .i64 vw)), XF Tryz.prog W 54 #[.slice p vw.length k, .int .i64 w] L' (fun v L'' => v = .bool true ∧ L'' = L') := fun L' p k h => by
    have := xf_has (W := W) (L := L') p vw.length k vw w rfl h (by omega)
    rwa [decide_eq_true hc3] at this
  focus
    refine xc_seq ?_
    refine xc_seq ?_
    refine xc_region ?_
    refine xo_rd (rd_move rfl) rfl ?_
    refine xo_rd (rd_fieldAddr rfl) rfl ?_
    refine xo_rd (rd_load1 rfl (Cl.o0 rfl)) rfl ?_
    refine xo_rd (rd_len rfl) rfl ?_
    refine xo_rd (rd_lss rfl rfl) rfl ?_
    refine xo_nil ?_
    refine xq_seq ?_
    refine xc_dec rfl (fun h1 => ?_) (fun h1 => (by exfalso; omega))
    refine xc_skip ?_
    refine xq_seq ?_
  focus
    refine xc_seq ?_
    refine xc_block ?_
    refine xc_seq ?_
    refine xc_drawM [0, 0, 2, 0, 12, 16, 33, 64, 192, 256, 768, 256, 3328, 4352, 256, 256, 49408, 65792, 139520, 262400, 524544, 1048576, 3145728, 1048576, 9437184, 22020096, 1048576, 68157440, 1048576, 403701760, 537919488, 1108344832, 2148532224, 6442450944, 8589934592, 8589934592, 42949672960, 8589934592, 214748364800, 283467841536, 575525617664, 8589934592, 8589934592, 6605659701248, 8804682956800, 18700287606784, 35192962023424, 70377334112256] [0, 0, 2, 0, 12, 16, 33, 64, 192, 256, 768, 256, 3328, 4352, 256, 256, 49408, 65792, 139520, 262400, 524544, 1048576, 3145728, 1048576, 9437184, 22020096, 1048576, 68157440, 1048576, 403701760, 537919488, 1108344832, 2148532224, 6442450944, 8589934592, 8589934592, 42949672960, 8589934592, 214748364800, 283467841536, 575525617664, 8589934592, 8589934592, 6605659701248, 8804682956800, 18700287606784, 35192962023424, 70377334112256] ((r23, Obj.cells (wEnc wct (some ⟨b23, o23, none⟩) wcs.length k23).toArray 64 (0, 0)) :: (l23 ++ y.blks r G3)) (by kernel_rfl) (by kernel_rfl) (by kernel_rfl) ?_
    refine xm_take 0 (m' := 1) rfl (by kernel_rfl) Sb.a (rd_move rfl) rfl (by kernel_rfl) ?_
    refine xm_take 1 (m' := 3) rfl (by kernel_rfl) Sb.a (rd_fieldAddr rfl) rfl (by kernel_rfl) ?_
    refine xm_take 2 (m' := 7) rfl (by kernel_rfl) Sb.a (rd_load1 rfl (Cl.o0 rfl)) rfl (by kernel_rfl) ?_
    refine xm_take 3 (m' := 15) rfl (by kernel_rfl) Sb.a (rd_move rfl) rfl (by kernel_rfl) ?_
    refine xm_take 4 (m' := 31) rfl (by kernel_rfl) Sb.a (rd_indexAddr rfl rfl (by omega) (by omega)) rfl (by kernel_rfl) ?_
    refine xm_take 5 (m' := 63) rfl (by kernel_rfl) Sb.a (rd_load1 rfl (hcc2 _ (by intro z hz; simp [hz]))) rfl (by kernel_rfl) ?_
    refine xm_one 6 (m' := 127) rfl (by kernel_rfl) rfl (by kernel_rfl) (ef_call rfl (XF.mono (hhas3 _ cc (by intro z hz; simp [hz]) hc1) ?_))
    rintro v L' ⟨rfl, rfl⟩
    refine ⟨Sb.a, ?_⟩
    refine xm_take 7 (m' := 255) rfl (by kernel_rfl) Sb.a (rd_not rfl) rfl (by kernel_rfl) ?_
    refine xm_take 8 (m' := 511) rfl (by kernel_rfl) Sb.a (rd_move rfl) rfl (by kernel_rfl) ?_
    refine xm_gtake 9 (m' := 1023) rfl (by kernel_rfl) Sb.a rfl rfl (rd_fieldAddr rfl) rfl (by kernel_rfl) ?_
    refine xm_gtake 10 (m' := 2047) rfl (by kernel_rfl) Sb.a rfl rfl (rd_load1 rfl (Cl.o0 rfl)) rfl (by kernel_rfl) ?_
    refine xm_gtake 11 (m' := 4095) rfl (by kernel_rfl) Sb.a rfl rfl (rd_move rfl) rfl (by kernel_rfl) ?_
    refine xm_gtake 12 (m' := 8191) rfl (by kernel_rfl) Sb.a rfl rfl (rd_indexAddr rfl rfl (by omega) (by omega)) rfl (by kernel_rfl) ?_
    refine xm_gtake 13 (m' := 16383) rfl (by kernel_rfl) Sb.a rfl rfl (rd_load1 rfl (hcc2 _ (by intro z hz; simp [hz]))) rfl (by kernel_rfl) ?_
    refine xm_gtake 14 (m' := 32767) rfl (by kernel_rfl) Sb.a rfl rfl (rd_move rfl) rfl (by kernel_rfl) ?_
    refine xm_gtake 15 (m' := 65535) rfl (by kernel_rfl) Sb.a rfl rfl (rd_move rfl) rfl (by kernel_rfl) ?_
    refine xm_gtake 16 (m' := 131071) rfl (by kernel_rfl) Sb.a rfl rfl (rd_indexAddr rfl rfl (by omega) (by omega)) rfl (by kernel_rfl) ?_
    refine xm_gtake 17 (m' := 262143) rfl (by kernel_rfl) Sb.a rfl rfl (rd_load1 rfl (hcb2 _ (by intro z hz; simp [hz]))) rfl (by kernel_rfl) ?_
    refine xm_gtake 18 (m' := 524287) rfl (by kernel_rfl) Sb.a rfl rfl (rd_eql rfl rfl) rfl (by kernel_rfl) ?_
    refine xm_take 19 (m' := 1048575) rfl (by kernel_rfl) Sb.a (rd_pickf rfl rfl) rfl (by kernel_rfl) ?_
    refine xm_take 20 (m' := 2097151) rfl (by kernel_rfl) Sb.a (rd_move rfl) rfl (by kernel_rfl) ?_
    refine xm_dec 262 rfl (fun h1 => (by exfalso; omega)) (fun h1 => ?_)
    refine xm_gtake 21 (m' := 4194303) rfl (by kernel_rfl) Sb.a rfl rfl (rd_fieldAddr rfl) rfl (by kernel_rfl) ?_
    refine xm_gtake 22 (m' := 8388607) rfl (by kernel_rfl) Sb.a rfl rfl (rd_load1 rfl (Cl.o0 rfl)) rfl (by kernel_rfl) ?_
    refine xm_gtake 23 (m' := 16777215) rfl (by kernel_rfl) Sb.a rfl rfl (rd_move rfl) rfl (by kernel_rfl) ?_
    refine xm_gtake 24 (m' := 33554431) rfl (by kernel_rfl) Sb.a rfl rfl (rd_addn rfl rfl (by omega) (by omega)) rfl (by kernel_rfl) ?_
    refine xm_gtake 25 (m' := 67108863) rfl (by kernel_rfl) Sb.a rfl rfl (rd_cast (v' := .slice (slp (some ⟨b23, o23, none⟩) k23 (q + 1) 1) (wcs.length - (q + 1)) (k23 - (q + 1))) (rd_slLo rfl rfl (by omega) (by omega)) (by rw [show ((q : Int) + 1).toNat = q + 1 by omega])) rfl (by kernel_rfl) ?_
    refine xm_gtake 26 (m' := 134217727) rfl (by kernel_rfl) Sb.a rfl rfl (rd_fieldAddr rfl) rfl (by kernel_rfl) ?_
    refine xm_gtake 27 (m' := 268435455) rfl (by kernel_rfl) Sb.a rfl rfl (rd_load1 rfl (Cl.o0 rfl)) rfl (by kernel_rfl) ?_
    refine xm_gtake 28 (m' := 536870911) rfl (by kernel_rfl) Sb.a rfl rfl (rd_move rfl) rfl (by kernel_rfl) ?_
    refine xm_gtake 29 (m' := 1073741823) rfl (by kernel_rfl) Sb.a rfl rfl (rd_indexAddr rfl rfl (by omega) (by omega)) rfl (by kernel_rfl) ?_
    refine xm_gtake 30 (m' := 2147483647) rfl (by kernel_rfl) Sb.a rfl rfl (rd_load1 rfl (hcc2 _ (by intro z hz; simp [hz]))) rfl (by kernel_rfl) ?_
    refine xm_gone 31 (m' := 4294967295) rfl (by kernel_rfl) rfl rfl rfl (by kernel_rfl) (ef_call rfl (XF.mono (hrd _ (by intro z hz; simp [hz])) ?_))
    rintro v L' ⟨rfl, rfl⟩
    refine ⟨Sb.a, ?_⟩
    refine xm_take 32 (m' := 8589934591) rfl (by kernel_rfl) Sb.a (rd_pickf rfl rfl) rfl (by kernel_rfl) ?_
    refine xm_take 33 (m' := 17179869183) rfl (by kernel_rfl) Sb.a (rd_move rfl) rfl (by kernel_rfl) ?_
    refine xm_gtake 34 (m' := 34359738367) rfl (by kernel_rfl) Sb.a rfl rfl (rd_move rfl) rfl (by kernel_rfl) ?_
    refine xm_gtake 35 (m' := 68719476735) rfl (by kernel_rfl) Sb.a rfl rfl (rd_fieldAddr rfl) rfl (by kernel_rfl) ?_
    refine xm_gtake 36 (m' := 137438953471) rfl (by kernel_rfl) Sb.a rfl rfl (rd_load1 rfl (Cl.o0 rfl)) rfl (by kernel_rfl) ?_
    refine xm_gtake 37 (m' := 274877906943) rfl (by kernel_rfl) Sb.a rfl rfl (rd_move rfl) rfl (by kernel_rfl) ?_
    refine xm_gtake 38 (m' := 549755813887) rfl (by kernel_rfl) Sb.a rfl rfl (rd_indexAddr rfl rfl (by omega) (by omega)) rfl (by kernel_rfl) ?_
    refine xm_gtake 39 (m' := 1099511627775) rfl (by kernel_rfl) Sb.a rfl rfl (rd_load1 rfl (hcc2 _ (by intro z hz; simp [hz]))) rfl (by kernel_rfl) ?_
    refine xm_gtake 41 (m' := 3298534883327) rfl (by kernel_rfl) Sb.a rfl rfl (rd_move rfl) rfl (by kernel_rfl) ?_
    refine xm_gtake 42 (m' := 7696581394431) rfl (by kernel_rfl) Sb.a rfl rfl (rd_move rfl) rfl (by kernel_rfl) ?_
    refine xm_gtake 43 (m' := 16492674416639) rfl (by kernel_rfl) Sb.a rfl rfl (rd_indexAddr rfl rfl (by omega) (by omega)) rfl (by kernel_rfl) ?_
    refine xm_gtake 44 (m' := 34084860461055) rfl (by kernel_rfl) Sb.a rfl rfl (rd_load1 rfl (hcb2 _ (by intro z hz; simp [hz]))) rfl (by kernel_rfl) ?_
    refine xm_gone 40 (m' := 35184372088831) rfl (by kernel_rfl) rfl rfl rfl (by kernel_rfl) (ef_call rfl (XF.mono (hvw) ?_))
    rintro v L' ⟨pv, kv, lv, rfl, hOv, rfl⟩
    refine ⟨Sb.a, ?_⟩
    refine xm_gone 45 (m' := 70368744177663) rfl (by kernel_rfl) rfl rfl rfl (by kernel_rfl) (ef_call rfl (XF.mono (hvh _ pv kv (hOv.rs (by intro z hz; simp [hz]))) ?_))
    rintro v L' ⟨rfl, rfl⟩
    refine ⟨Sb.a, ?_⟩
    refine xm_gtake 46 (m' := 140737488355327) rfl (by kernel_rfl) Sb.a rfl rfl (rd_not rfl) rfl (by kernel_rfl) ?_
    refine xm_take 47 (m' := 281474976710655) rfl (by kernel_rfl) Sb.a (rd_pickf rfl rfl) rfl (by kernel_rfl) ?_
    refine xm_done (by kernel_rfl) ?_
    refine xq_seq ?_
    refine xc_condf rfl ?_
    refine xc_skip ?_
    refine xq_block ?_
    refine xq_seq ?_
    refine xc_region ?_
    refine xo_rd (rd_move rfl) rfl ?_
    refine xo_rd (rd_addn rfl rfl (by omega) (by omega)) rfl ?_
    refine xo_rd (rd_assign rfl) rfl ?_
    refine xo_nil ?_
  all_goals exact xq_roundK rfl (q + 1) (by omega) (by omega) (((List.sublist_append_right lv _).append_left l23).cons_cons _) (by repeat (first | exact keep_nil | refine keep_cons rfl ?_))
end Go.Proofs.YtmdeajdaeihniaaGreat.X
