/-
  Texts of my own, put together: walks and laws for this seat. No condition.
-/
import Derived.Test.YtohlaabclifbfaaM10
/-
  What is the same is found so: walks of my own.
-/
namespace Go.Proofs.Ytohlaabclifbfaa.X
open Go Go.RowKit
set_option linter.unusedVariables false
set_option linter.unusedSimpArgs false
set_option maxHeartbeats 4000000 in
theorem xf_sameBlocks {W : World} {L : List Blk} (p p' : Option Addr) (n c c' : Nat) (xs : List Bk) (hx : xs.length = n) (hr : Rs W L p (xs.flatMap Bk.enc)) (hr' : Rs W L p' (xs.flatMap Bk.enc)) (hn : n ≤ 1000000) :
    XF Try.prog W 66 #[.slice p n c, .slice p' n c'] L (fun v L' => v = .bool true ∧ L' = L) := by
  refine xf_enter (args := [_, _]) Try.func66 rfl Try.ntmps66 rfl ?_
  focus
    refine xc_seq ?_
    refine xc_region ?_
    refine xo_rd (rd_assign rfl) rfl ?_
    refine xo_nil ?_
    refine xq_seq ?_
    refine xc_seq ?_
    refine xc_seq ?_
    refine xc_region ?_
    refine xo_rd (rd_move rfl) rfl ?_
    refine xo_rd (rd_len rfl) rfl ?_
    refine xo_rd (rd_move rfl) rfl ?_
    refine xo_rd (rd_len rfl) rfl ?_
    refine xo_rd (rd_neq rfl rfl) rfl ?_
    refine xo_nil ?_
    refine xq_seq ?_
    refine xc_ndec rfl (fun h => absurd rfl h) (fun _ => ?_)
    refine xc_skip ?_
    refine xq_seq ?_
    refine xc_seq ?_
    refine xc_seq ?_
    refine xc_region ?_
    refine xo_rd (rd_assign rfl) rfl ?_
    refine xo_nil ?_
    refine xq_seq ?_
    refine xc_block ?_
  refine xc_loopK (ι := Nat) (fun i => i ≤ n) (fun i => n - i) (fun i => [(0, .slice p n c), (1, .slice p' n c'), (5, .int .i64 i)]) 0 (Nat.zero_le _) (by repeat (first | exact keep_nil | refine keep_cons rfl ?_)) ?_
  intro i hi
  by_cases hin : i < n
  · obtain ⟨b, o, hp, hc⟩ := hr.rows Bk.len (by decide) (by omega)
    obtain ⟨b2, o2, hp2, hc2⟩ := hr'.rows Bk.len (by decide) (by omega)
    subst hp hp2
    have hci := hc i (by omega)
    have hci2 := hc2 i (by omega)
    generalize xs[i] = x at *
    have hcI : ∀ (j : Nat) (u : Value), x.enc[j]? = some u → Cl W L b (o + (i : Int).toNat * 7 + j) u := fun j u hj => hci j u hj
    have hcJ : ∀ (j : Nat) (u : Value), x.enc[j]? = some u → Cl W L b2 (o2 + (i : Int).toNat * 7 + j) u := fun j u hj => hci2 j u hj
    focus
      refine xc_seq ?_
      refine xc_seq ?_
      refine xc_region ?_
      refine xo_rd (rd_move rfl) rfl ?_
      refine xo_rd (rd_move rfl) rfl ?_
      refine xo_rd (rd_len rfl) rfl ?_
      refine xo_rd (rd_lss rfl rfl) rfl ?_
      refine xo_nil ?_
      refine xq_seq ?_
      refine xc_dec rfl (fun h1 => ?_) (fun h1 => (by exfalso; omega))
      refine xc_skip ?_
      refine xq_seq ?_
      refine xc_seq ?_
      refine xc_block ?_
      refine xc_seq ?_
      refine xc_drawM [0, 0, 3, 4, 0, 0, 48, 64, 136] [0, 0, 3, 4, 0, 0, 48, 64, 136] L (by kernel_rfl) (by kernel_rfl) (by kernel_rfl) ?_
      refine xm_take 0 (m' := 1) rfl (by kernel_rfl) Sb.refl (rd_move rfl) rfl (by kernel_rfl) ?_
      refine xm_take 1 (m' := 3) rfl (by kernel_rfl) Sb.refl (rd_move rfl) rfl (by kernel_rfl) ?_
      refine xm_take 2 (m' := 7) rfl (by kernel_rfl) Sb.refl (rd_indexAddr rfl rfl (by omega) (by omega)) rfl (by kernel_rfl) ?_
      refine xm_take 3 (m' := 15) rfl (by kernel_rfl) Sb.refl (rd_loadA (vs := x.enc) rfl rfl hcI) rfl (by kernel_rfl) ?_
      refine xm_take 4 (m' := 31) rfl (by kernel_rfl) Sb.refl (rd_move rfl) rfl (by kernel_rfl) ?_
      refine xm_take 5 (m' := 63) rfl (by kernel_rfl) Sb.refl (rd_move rfl) rfl (by kernel_rfl) ?_
      refine xm_take 6 (m' := 127) rfl (by kernel_rfl) Sb.refl (rd_indexAddr rfl rfl (by omega) (by omega)) rfl (by kernel_rfl) ?_
      refine xm_take 7 (m' := 255) rfl (by kernel_rfl) Sb.refl (rd_loadA (vs := x.enc) rfl rfl hcJ) rfl (by kernel_rfl) ?_
      refine xm_take 8 (m' := 511) rfl (by kernel_rfl) Sb.refl (rd_ne132 rfl rfl) rfl (by kernel_rfl) ?_
      refine xm_done (by kernel_rfl) ?_
      refine xq_seq ?_
      refine xc_condf rfl ?_
      refine xc_skip ?_
      refine xq_block ?_
      refine xq_seq ?_
      refine xc_region ?_
      refine xo_rd (rd_move rfl) rfl ?_
      refine xo_rd (rd_addn rfl rfl (by omega) (by omega)) rfl ?_
      refine xo_rd (rd_assign rfl) rfl ?_
      refine xo_nil ?_
    exact xq_roundK rfl (i + 1) (by omega) (by omega) (List.Sublist.refl _) (by repeat (first | exact keep_nil | refine keep_cons rfl ?_))
  · focus
      refine xc_seq ?_
      refine xc_seq ?_
      refine xc_region ?_
      refine xo_rd (rd_move rfl) rfl ?_
      refine xo_rd (rd_move rfl) rfl ?_
      refine xo_rd (rd_len rfl) rfl ?_
      refine xo_rd (rd_lss rfl rfl) rfl ?_
      refine xo_nil ?_
      refine xq_seq ?_
      refine xc_dec rfl (fun h1 => (by exfalso; omega)) (fun h1 => ?_)
      refine xc_exit ?_
      refine xq_then_exit ?_
      refine xq_then_exit ?_
      refine xq_block_hit ?_
      refine xq_seq ?_
      refine xc_seq ?_
      refine xc_region ?_
      refine xo_rd (rd_assign rfl) rfl ?_
      refine xo_nil ?_
      refine xq_seq ?_
      refine xc_ret ?_
      exact xq_ret1 (.inl rfl) Try.results66 rfl (⟨rfl, rfl⟩)
set_option maxHeartbeats 4000000 in
theorem xf_sameSender {W : World} {L : List Blk} (x : Sn) (p p' : Option Addr) (c c' : Nat) (hr : Rs W L p (x.bl.flatMap Bk.enc)) (hr' : Rs W L p' (x.bl.flatMap Bk.enc)) (hn : x.bl.length ≤ 1000000) :
    XF Try.prog W 39 #[.agg (x.enc (.slice p x.bl.length c)).toArray, .agg (x.enc (.slice p' x.bl.length c')).toArray] L (fun v L' => v = .bool true ∧ L' = L) := by
  refine xf_enter (args := [_, _]) Try.func39 rfl Try.ntmps39 rfl ?_
  obtain ⟨ss, nt, rt, pk, oc, xs⟩ := x
  unfold Sn.enc
  dsimp only at hr hr' hn ⊢
  focus
    refine xc_seq ?_
    refine xc_region ?_
    refine xo_ef rfl (ef_box rfl fun r2 => ?_)
    refine xo_ef rfl (ef_box rfl fun r3 => ?_)
    refine xo_rd (rd_assign rfl) rfl ?_
    refine xo_nil ?_
    refine xq_seq ?_
    refine xc_seq ?_
    refine xc_region ?_
    refine xo_rd (rd_fieldAddr rfl) rfl ?_
    refine xo_rd (rd_load1 rfl (Cl.o1 rfl)) rfl ?_
    refine xo_rd (rd_fieldAddr rfl) rfl ?_
    refine xo_rd (rd_load1 rfl (Cl.o0 rfl)) rfl ?_
    refine xo_rd (rd_cast (v' := .bool true) (rd_eql rfl rfl) (congrArg Value.bool (decide_eq_true rfl))) rfl ?_
    refine xo_rd (rd_move rfl) rfl ?_
    refine xo_grd rfl rfl (rd_fieldAddr rfl) rfl ?_
    refine xo_grd rfl rfl (rd_load1 rfl (Cl.o1 rfl)) rfl ?_
    refine xo_grd rfl rfl (rd_fieldAddr rfl) rfl ?_
    refine xo_grd rfl rfl (rd_load1 rfl (Cl.o0 rfl)) rfl ?_
    refine xo_grd rfl rfl (rd_cast (v' := .bool true) (rd_eql rfl rfl) (congrArg Value.bool (decide_eq_true rfl))) rfl ?_
    refine xo_rd (rd_pickt rfl rfl) rfl ?_
    refine xo_rd (rd_move rfl) rfl ?_
    refine xo_grd rfl rfl (rd_fieldAddr rfl) rfl ?_
    refine xo_grd rfl rfl (rd_load1 rfl (Cl.o1 rfl)) rfl ?_
    refine xo_grd rfl rfl (rd_fieldAddr rfl) rfl ?_
    refine xo_grd rfl rfl (rd_load1 rfl (Cl.o0 rfl)) rfl ?_
    refine xo_grd rfl rfl (rd_cast (v' := .bool true) (rd_eql rfl rfl) (congrArg Value.bool (decide_eq_true rfl))) rfl ?_
    refine xo_rd (rd_pickt rfl rfl) rfl ?_
    refine xo_rd (rd_move rfl) rfl ?_
    refine xo_grd rfl rfl (rd_fieldAddr rfl) rfl ?_
    refine xo_grd rfl rfl (rd_load1 rfl (Cl.o1 rfl)) rfl ?_
    refine xo_grd rfl rfl (rd_fieldAddr rfl) rfl ?_
    refine xo_grd rfl rfl (rd_load1 rfl (Cl.o0 rfl)) rfl ?_
    refine xo_grd rfl rfl (rd_cast (v' := .bool true) (rd_eql rfl rfl) (congrArg Value.bool (decide_eq_true rfl))) rfl ?_
    refine xo_rd (rd_pickt rfl rfl) rfl ?_
    refine xo_rd (rd_move rfl) rfl ?_
    refine xo_grd rfl rfl (rd_fieldAddr rfl) rfl ?_
    refine xo_grd rfl rfl (rd_load1 rfl (Cl.o1 rfl)) rfl ?_
    refine xo_grd rfl rfl (rd_fieldAddr rfl) rfl ?_
    refine xo_grd rfl rfl (rd_load1 rfl (Cl.o0 rfl)) rfl ?_
    refine xo_grd rfl rfl (rd_cast (v' := .bool true) (rd_eql rfl rfl) (congrArg Value.bool (decide_eq_true rfl))) rfl ?_
    refine xo_rd (rd_pickt rfl rfl) rfl ?_
    refine xo_rd (rd_move rfl) rfl ?_
    refine xo_grd rfl rfl (rd_fieldAddr rfl) rfl ?_
    refine xo_grd rfl rfl (rd_load1 rfl (Cl.o1 rfl)) rfl ?_
    refine xo_grd rfl rfl (rd_fieldAddr rfl) rfl ?_
    refine xo_grd rfl rfl (rd_load1 rfl (Cl.o0 rfl)) rfl ?_
    refine xo_gef rfl rfl rfl (ef_call rfl (XF.mono (xf_sameBlocks p p' xs.length c c' xs rfl (hr.mono (by intro z hz; simp [hz])) (hr'.mono (by intro z hz; simp [hz])) hn) ?_))
    rintro v L' ⟨rfl, rfl⟩
    refine xo_rd (rd_pickt rfl rfl) rfl ?_
    refine xo_rd (rd_assign rfl) rfl ?_
    refine xo_nil ?_
    refine xq_seq ?_
    refine xc_ret ?_
    exact xq_tail (xq_tail (xq_ret1 (.inl rfl) Try.results39 rfl (⟨rfl, rfl⟩)))
set_option maxHeartbeats 4000000 in
theorem xf_sameReceiver {W : World} {L : List Blk} (ss : Int) (p p' : Option Addr) (n c c' : Nat) (xs : List Bk) (hx : xs.length = n) (hr : Rs W L p (xs.flatMap Bk.enc)) (hr' : Rs W L p' (xs.flatMap Bk.enc)) (hn : n ≤ 1000000) :
    XF Try.prog W 40 #[.agg #[.int .u32 ss, .slice p n c], .agg #[.int .u32 ss, .slice p' n c']] L (fun v L' => v = .bool true ∧ L' = L) := by
  refine xf_enter (args := [_, _]) Try.func40 rfl Try.ntmps40 rfl ?_
  focus
    refine xc_seq ?_
    refine xc_region ?_
    refine xo_ef rfl (ef_box rfl fun r2 => ?_)
    refine xo_ef rfl (ef_box rfl fun r3 => ?_)
    refine xo_rd (rd_assign rfl) rfl ?_
    refine xo_nil ?_
    refine xq_seq ?_
    refine xc_seq ?_
    refine xc_region ?_
    refine xo_rd (rd_fieldAddr rfl) rfl ?_
    refine xo_rd (rd_load1 rfl (Cl.o1 rfl)) rfl ?_
    refine xo_rd (rd_fieldAddr rfl) rfl ?_
    refine xo_rd (rd_load1 rfl (Cl.o0 rfl)) rfl ?_
    refine xo_rd (rd_cast (v' := .bool true) (rd_eql rfl rfl) (congrArg Value.bool (decide_eq_true rfl))) rfl ?_
    refine xo_rd (rd_move rfl) rfl ?_
    refine xo_grd rfl rfl (rd_fieldAddr rfl) rfl ?_
    refine xo_grd rfl rfl (rd_load1 rfl (Cl.o1 rfl)) rfl ?_
    refine xo_grd rfl rfl (rd_fieldAddr rfl) rfl ?_
    refine xo_grd rfl rfl (rd_load1 rfl (Cl.o0 rfl)) rfl ?_
    refine xo_gef rfl rfl rfl (ef_call rfl (XF.mono (xf_sameBlocks p p' n c c' xs hx (hr.mono (by intro z hz; simp [hz])) (hr'.mono (by intro z hz; simp [hz])) hn) ?_))
    rintro v L' ⟨rfl, rfl⟩
    refine xo_rd (rd_pickt rfl rfl) rfl ?_
    refine xo_rd (rd_assign rfl) rfl ?_
    refine xo_nil ?_
    refine xq_seq ?_
    refine xc_ret ?_
    exact xq_tail (xq_tail (xq_ret1 (.inl rfl) Try.results40 rfl (⟨rfl, rfl⟩)))
set_option maxHeartbeats 4000000 in
theorem xf_sameChunks {W : World} {L : List Blk} (p p' : Option Addr) (n c c' : Nat) (xs : List Ck) (hx : xs.length = n) (hr : Rs W L p (xs.flatMap Ck.enc)) (hr' : Rs W L p' (xs.flatMap Ck.enc)) (hn : n ≤ 1000000) :
    XF Try.prog W 42 #[.slice p n c, .slice p' n c'] L (fun v L' => v = .bool true ∧ L' = L) := by
  refine xf_enter (args := [_, _]) Try.func42 rfl Try.ntmps42 rfl ?_
  focus
    refine xc_seq ?_
    refine xc_region ?_
    refine xo_rd (rd_assign rfl) rfl ?_
    refine xo_nil ?_
    refine xq_seq ?_
    refine xc_seq ?_
    refine xc_seq ?_
    refine xc_region ?_
    refine xo_rd (rd_move rfl) rfl ?_
    refine xo_rd (rd_len rfl) rfl ?_
    refine xo_rd (rd_move rfl) rfl ?_
    refine xo_rd (rd_len rfl) rfl ?_
    refine xo_rd (rd_neq rfl rfl) rfl ?_
    refine xo_nil ?_
    refine xq_seq ?_
    refine xc_ndec rfl (fun h => absurd rfl h) (fun _ => ?_)
    refine xc_skip ?_
    refine xq_seq ?_
    refine xc_seq ?_
    refine xc_seq ?_
    refine xc_region ?_
    refine xo_rd (rd_assign rfl) rfl ?_
    refine xo_nil ?_
    refine xq_seq ?_
    refine xc_block ?_
  refine xc_loopK (ι := Nat) (fun i => i ≤ n) (fun i => n - i) (fun i => [(0, .slice p n c), (1, .slice p' n c'), (5, .int .i64 i)]) 0 (Nat.zero_le _) (by repeat (first | exact keep_nil | refine keep_cons rfl ?_)) ?_
  intro i hi
  by_cases hin : i < n
  · obtain ⟨b, o, hp, hc⟩ := hr.rows Ck.len (by decide) (by omega)
    obtain ⟨b2, o2, hp2, hc2⟩ := hr'.rows Ck.len (by decide) (by omega)
    subst hp hp2
    have hci := hc i (by omega)
    have hci2 := hc2 i (by omega)
    generalize xs[i] = x at *
    obtain ⟨ss, nm⟩ := x
    have hc0 : Cl W L b (o + (i : Int).toNat * 2 + 0) (.int .u32 ss) := hci 0 _ rfl
    have hc1 : Cl W L b (o + (i : Int).toNat * 2 + 1) (.string nm) := hci 1 _ rfl
    have hd0 : Cl W L b2 (o2 + (i : Int).toNat * 2 + 0) (.int .u32 ss) := hci2 0 _ rfl
    have hd1 : Cl W L b2 (o2 + (i : Int).toNat * 2 + 1) (.string nm) := hci2 1 _ rfl
    focus
      refine xc_seq ?_
      refine xc_seq ?_
      refine xc_region ?_
      refine xo_rd (rd_move rfl) rfl ?_
      refine xo_rd (rd_move rfl) rfl ?_
      refine xo_rd (rd_len rfl) rfl ?_
      refine xo_rd (rd_lss rfl rfl) rfl ?_
      refine xo_nil ?_
      refine xq_seq ?_
      refine xc_dec rfl (fun h1 => ?_) (fun h1 => (by exfalso; omega))
      refine xc_skip ?_
      refine xq_seq ?_
      refine xc_seq ?_
      refine xc_block ?_
      refine xc_seq ?_
      refine xc_drawM [0, 0, 3, 4, 8, 0, 0, 96, 128, 256, 528, 1024, 2048, 2048, 14336, 18432, 34816, 2048, 2048, 395264, 526336, 1050624, 2164736, 4196352] [0, 0, 3, 4, 8, 0, 0, 96, 128, 256, 528, 1024, 2048, 2048, 14336, 18432, 34816, 2048, 2048, 395264, 526336, 1050624, 2164736, 4196352] L (by kernel_rfl) (by kernel_rfl) (by kernel_rfl) ?_
      refine xm_take 0 (m' := 1) rfl (by kernel_rfl) Sb.refl (rd_move rfl) rfl (by kernel_rfl) ?_
      refine xm_take 1 (m' := 3) rfl (by kernel_rfl) Sb.refl (rd_move rfl) rfl (by kernel_rfl) ?_
      refine xm_take 2 (m' := 7) rfl (by kernel_rfl) Sb.refl (rd_indexAddr rfl rfl (by omega) (by omega)) rfl (by kernel_rfl) ?_
      refine xm_take 3 (m' := 15) rfl (by kernel_rfl) Sb.refl (rd_fieldAddr rfl) rfl (by kernel_rfl) ?_
      refine xm_take 4 (m' := 31) rfl (by kernel_rfl) Sb.refl (rd_load1 rfl hc0) rfl (by kernel_rfl) ?_
      refine xm_take 5 (m' := 63) rfl (by kernel_rfl) Sb.refl (rd_move rfl) rfl (by kernel_rfl) ?_
      refine xm_take 6 (m' := 127) rfl (by kernel_rfl) Sb.refl (rd_move rfl) rfl (by kernel_rfl) ?_
      refine xm_take 7 (m' := 255) rfl (by kernel_rfl) Sb.refl (rd_indexAddr rfl rfl (by omega) (by omega)) rfl (by kernel_rfl) ?_
      refine xm_take 8 (m' := 511) rfl (by kernel_rfl) Sb.refl (rd_fieldAddr rfl) rfl (by kernel_rfl) ?_
      refine xm_take 9 (m' := 1023) rfl (by kernel_rfl) Sb.refl (rd_load1 rfl hd0) rfl (by kernel_rfl) ?_
      refine xm_take 10 (m' := 2047) rfl (by kernel_rfl) Sb.refl (rd_cast (v' := .bool false) (rd_neq rfl rfl) (congrArg Value.bool (by rw [decide_eq_true rfl]; rfl))) rfl (by kernel_rfl) ?_
      refine xm_take 11 (m' := 4095) rfl (by kernel_rfl) Sb.refl (rd_move rfl) rfl (by kernel_rfl) ?_
      refine xm_gtake 12 (m' := 8191) rfl (by kernel_rfl) Sb.refl rfl rfl (rd_move rfl) rfl (by kernel_rfl) ?_
      refine xm_gtake 13 (m' := 16383) rfl (by kernel_rfl) Sb.refl rfl rfl (rd_move rfl) rfl (by kernel_rfl) ?_
      refine xm_gtake 14 (m' := 32767) rfl (by kernel_rfl) Sb.refl rfl rfl (rd_indexAddr rfl rfl (by omega) (by omega)) rfl (by kernel_rfl) ?_
      refine xm_gtake 15 (m' := 65535) rfl (by kernel_rfl) Sb.refl rfl rfl (rd_fieldAddr rfl) rfl (by kernel_rfl) ?_
      refine xm_gtake 16 (m' := 131071) rfl (by kernel_rfl) Sb.refl rfl rfl (rd_load1 rfl hc1) rfl (by kernel_rfl) ?_
      refine xm_gtake 17 (m' := 262143) rfl (by kernel_rfl) Sb.refl rfl rfl (rd_move rfl) rfl (by kernel_rfl) ?_
      refine xm_gtake 18 (m' := 524287) rfl (by kernel_rfl) Sb.refl rfl rfl (rd_move rfl) rfl (by kernel_rfl) ?_
      refine xm_gtake 19 (m' := 1048575) rfl (by kernel_rfl) Sb.refl rfl rfl (rd_indexAddr rfl rfl (by omega) (by omega)) rfl (by kernel_rfl) ?_
      refine xm_gtake 20 (m' := 2097151) rfl (by kernel_rfl) Sb.refl rfl rfl (rd_fieldAddr rfl) rfl (by kernel_rfl) ?_
      refine xm_gtake 21 (m' := 4194303) rfl (by kernel_rfl) Sb.refl rfl rfl (rd_load1 rfl hd1) rfl (by kernel_rfl) ?_
      refine xm_gtake 22 (m' := 8388607) rfl (by kernel_rfl) Sb.refl rfl rfl (rd_cast (v' := .bool false) (rd_nes rfl rfl) (congrArg Value.bool (by rw [decide_eq_true rfl]; rfl))) rfl (by kernel_rfl) ?_
      refine xm_take 23 (m' := 16777215) rfl (by kernel_rfl) Sb.refl (rd_pickf rfl rfl) rfl (by kernel_rfl) ?_
      refine xm_done (by kernel_rfl) ?_
      refine xq_seq ?_
      refine xc_condf rfl ?_
      refine xc_skip ?_
      refine xq_block ?_
      refine xq_seq ?_
      refine xc_region ?_
      refine xo_rd (rd_move rfl) rfl ?_
      refine xo_rd (rd_addn rfl rfl (by omega) (by omega)) rfl ?_
      refine xo_rd (rd_assign rfl) rfl ?_
      refine xo_nil ?_
    exact xq_roundK rfl (i + 1) (by omega) (by omega) (List.Sublist.refl _) (by repeat (first | exact keep_nil | refine keep_cons rfl ?_))
  · focus
      refine xc_seq ?_
      refine xc_seq ?_
      refine xc_region ?_
      refine xo_rd (rd_move rfl) rfl ?_
      refine xo_rd (rd_move rfl) rfl ?_
      refine xo_rd (rd_len rfl) rfl ?_
      refine xo_rd (rd_lss rfl rfl) rfl ?_
      refine xo_nil ?_
      refine xq_seq ?_
      refine xc_dec rfl (fun h1 => (by exfalso; omega)) (fun h1 => ?_)
      refine xc_exit ?_
      refine xq_then_exit ?_
      refine xq_then_exit ?_
      refine xq_block_hit ?_
      refine xq_seq ?_
      refine xc_seq ?_
      refine xc_region ?_
      refine xo_rd (rd_assign rfl) rfl ?_
      refine xo_nil ?_
      refine xq_seq ?_
      refine xc_ret ?_
      exact xq_ret1 (.inl rfl) Try.results42 rfl (⟨rfl, rfl⟩)
set_option maxHeartbeats 4000000 in
theorem xf_sameBye {W : World} {L : List Blk} (x : By') (p p' : Option Addr) (c c' : Nat) (hr : Rs W L p (ints .u32 x.so)) (hr' : Rs W L p' (ints .u32 x.so)) (hn : x.so.length ≤ 1000000) :
    XF Try.prog W 44 #[.agg (x.enc (.slice p x.so.length c)).toArray, .agg (x.enc (.slice p' x.so.length c')).toArray] L (fun v L' => v = .bool true ∧ L' = L) := by
  refine xf_enter (args := [_, _]) Try.func44 rfl Try.ntmps44 rfl ?_
  obtain ⟨so, re⟩ := x
  unfold By'.enc
  dsimp only at hr hr' hn ⊢
  focus
    refine xc_seq ?_
    refine xc_region ?_
    refine xo_ef rfl (ef_box rfl fun r2 => ?_)
    refine xo_ef rfl (ef_box rfl fun r3 => ?_)
    refine xo_rd (rd_assign rfl) rfl ?_
    refine xo_nil ?_
    refine xq_seq ?_
    refine xc_seq ?_
    refine xc_seq ?_
    refine xc_region ?_
    refine xo_rd (rd_fieldAddr rfl) rfl ?_
    refine xo_rd (rd_load1 rfl (Cl.o1 rfl)) rfl ?_
    refine xo_rd (rd_len rfl) rfl ?_
    refine xo_rd (rd_fieldAddr rfl) rfl ?_
    refine xo_rd (rd_load1 rfl (Cl.o0 rfl)) rfl ?_
    refine xo_rd (rd_len rfl) rfl ?_
    refine xo_rd (rd_neq rfl rfl) rfl ?_
    refine xo_nil ?_
    refine xq_seq ?_
    refine xc_ndec rfl (fun h => absurd rfl h) (fun _ => ?_)
    refine xc_skip ?_
    refine xq_seq ?_
    refine xc_seq ?_
    refine xc_seq ?_
    refine xc_region ?_
    refine xo_rd (rd_assign rfl) rfl ?_
    refine xo_nil ?_
    refine xq_seq ?_
    refine xc_block ?_
  refine xc_loopK (ι := Nat) (fun i => i ≤ so.length) (fun i => so.length - i) (fun i => [(2, .pointer (some ⟨r2, 0, none⟩)), (3, .pointer (some ⟨r3, 0, none⟩)), (5, .int .i64 i)]) 0 (Nat.zero_le _) (by repeat (first | exact keep_nil | refine keep_cons rfl ?_)) ?_
  intro i hi
  by_cases hin : i < so.length
  · obtain ⟨b, o, hp, hc⟩ := hr.int (i := i) hin
    obtain ⟨b2, o2, hp2, hc2⟩ := hr'.int (i := i) hin
    subst hp hp2
    generalize so[i] = z at *
    have hcI : ∀ R, Cl W (R ++ L) b (o + (i : Int).toNat * 1) (.int .u32 z) := fun R => hc.mono fun _ h => List.mem_append_right _ h
    have hcJ : ∀ R, Cl W (R ++ L) b2 (o2 + (i : Int).toNat * 1) (.int .u32 z) := fun R => hc2.mono fun _ h => List.mem_append_right _ h
    focus
      refine xc_seq ?_
      refine xc_seq ?_
      refine xc_region ?_
      refine xo_rd (rd_move rfl) rfl ?_
      refine xo_rd (rd_fieldAddr rfl) rfl ?_
      refine xo_rd (rd_load1 rfl (Cl.o1 rfl)) rfl ?_
      refine xo_rd (rd_len rfl) rfl ?_
      refine xo_rd (rd_lss rfl rfl) rfl ?_
      refine xo_nil ?_
      refine xq_seq ?_
      refine xc_dec rfl (fun h1 => ?_) (fun h1 => (by exfalso; omega))
      refine xc_skip ?_
      refine xq_seq ?_
      refine xc_seq ?_
      refine xc_block ?_
      refine xc_seq ?_
      refine xc_drawML [0, 1, 0, 6, 8, 0, 32, 0, 192, 256, 528] [0, 1, 0, 6, 8, 0, 32, 0, 192, 256, 528] (by kernel_rfl) (by kernel_rfl) (by kernel_rfl) ?_
      refine xm_take 0 (m' := 1) rfl (by kernel_rfl) Sb.refl (rd_fieldAddr rfl) rfl (by kernel_rfl) ?_
      refine xm_take 1 (m' := 3) rfl (by kernel_rfl) Sb.refl (rd_load1 rfl (Cl.o1 rfl)) rfl (by kernel_rfl) ?_
      refine xm_take 2 (m' := 7) rfl (by kernel_rfl) Sb.refl (rd_move rfl) rfl (by kernel_rfl) ?_
      refine xm_take 3 (m' := 15) rfl (by kernel_rfl) Sb.refl (rd_indexAddr rfl rfl (by omega) (by omega)) rfl (by kernel_rfl) ?_
      refine xm_take 4 (m' := 31) rfl (by kernel_rfl) Sb.refl (rd_load1 rfl (hcI [_, _])) rfl (by kernel_rfl) ?_
      refine xm_take 5 (m' := 63) rfl (by kernel_rfl) Sb.refl (rd_fieldAddr rfl) rfl (by kernel_rfl) ?_
      refine xm_take 6 (m' := 127) rfl (by kernel_rfl) Sb.refl (rd_load1 rfl (Cl.o0 rfl)) rfl (by kernel_rfl) ?_
      refine xm_take 7 (m' := 255) rfl (by kernel_rfl) Sb.refl (rd_move rfl) rfl (by kernel_rfl) ?_
      refine xm_take 8 (m' := 511) rfl (by kernel_rfl) Sb.refl (rd_indexAddr rfl rfl (by omega) (by omega)) rfl (by kernel_rfl) ?_
      refine xm_take 9 (m' := 1023) rfl (by kernel_rfl) Sb.refl (rd_load1 rfl (hcJ [_, _])) rfl (by kernel_rfl) ?_
      refine xm_take 10 (m' := 2047) rfl (by kernel_rfl) Sb.refl (rd_cast (v' := .bool false) (rd_neq rfl rfl) (congrArg Value.bool (by rw [decide_eq_true rfl]; rfl))) rfl (by kernel_rfl) ?_
      refine xm_done (by kernel_rfl) ?_
      refine xq_seq ?_
      refine xc_condf rfl ?_
      refine xc_skip ?_
      refine xq_block ?_
      refine xq_seq ?_
      refine xc_region ?_
      refine xo_rd (rd_move rfl) rfl ?_
      refine xo_rd (rd_addn rfl rfl (by omega) (by omega)) rfl ?_
      refine xo_rd (rd_assign rfl) rfl ?_
      refine xo_nil ?_
    all_goals exact xq_roundK rfl (i + 1) (by omega) (by omega) (List.Sublist.refl _) (by repeat (first | exact keep_nil | refine keep_cons rfl ?_))
  · skip
    focus
      refine xc_seq ?_
      refine xc_seq ?_
      refine xc_region ?_
      refine xo_rd (rd_move rfl) rfl ?_
      refine xo_rd (rd_fieldAddr rfl) rfl ?_
      refine xo_rd (rd_load1 rfl (Cl.o1 rfl)) rfl ?_
      refine xo_rd (rd_len rfl) rfl ?_
      refine xo_rd (rd_lss rfl rfl) rfl ?_
      refine xo_nil ?_
      refine xq_seq ?_
      refine xc_dec rfl (fun h1 => (by exfalso; omega)) (fun h1 => ?_)
      refine xc_exit ?_
      refine xq_then_exit ?_
      refine xq_then_exit ?_
      refine xq_block_hit ?_
      refine xq_seq ?_
      refine xc_seq ?_
      refine xc_region ?_
      refine xo_rd (rd_fieldAddr rfl) rfl ?_
      refine xo_rd (rd_load1 rfl (Cl.o1 rfl)) rfl ?_
      refine xo_rd (rd_fieldAddr rfl) rfl ?_
      refine xo_rd (rd_load1 rfl (Cl.o0 rfl)) rfl ?_
      refine xo_rd (rd_cast (v' := .bool true) (rd_eqs rfl rfl) (congrArg Value.bool (decide_eq_true rfl))) rfl ?_
      refine xo_rd (rd_assign rfl) rfl ?_
      refine xo_nil ?_
      refine xq_seq ?_
      refine xc_ret ?_
      exact xq_tail (xq_tail (xq_ret1 (.inl rfl) Try.results44 rfl (⟨rfl, rfl⟩)))
set_option maxHeartbeats 4000000 in
theorem xf_is {W : World} {L : List Blk} (x y : Pb) (e : Int) (hq : x.q = y.q) (h1 : Rs W L x.p (ints .u8 x.q.bd)) (h2 : Rs W L y.p (ints .u8 y.q.bd)) (hg : x.q.Rg) (hn : x.q.bd.length ≤ 1000000) :
    XF Try.prog W 36 #[.agg x.enc.toArray, .int .i64 e, .agg y.enc.toArray, .int .i64 e] L (fun v L' => v = .bool true ∧ L' = L) := by
  refine xf_enter (args := [_, _, _, _]) Try.func36 rfl Try.ntmps36 rfl ?_
  focus
    refine xc_seq ?_
    refine xc_region ?_
    refine xo_ef rfl (ef_box rfl fun r4 => ?_)
    refine xo_ef rfl (ef_box rfl fun r6 => ?_)
    refine xo_rd (rd_assign rfl) rfl ?_
    refine xo_nil ?_
    refine xq_seq ?_
    refine xc_seq ?_
    refine xc_drawML [0, 0, 3, 4, 8, 24, 8, 104, 136, 511] [0, 0, 3, 4, 8, 24, 8, 104, 136, 511] (by kernel_rfl) (by kernel_rfl) (by kernel_rfl) ?_
    refine xm_take 0 (m' := 1) rfl (by kernel_rfl) Sb.refl (rd_move rfl) rfl (by kernel_rfl) ?_
    refine xm_take 1 (m' := 3) rfl (by kernel_rfl) Sb.refl (rd_move rfl) rfl (by kernel_rfl) ?_
    refine xm_take 2 (m' := 7) rfl (by kernel_rfl) Sb.refl (rd_cast (v' := .bool true) (rd_eql rfl rfl) (congrArg Value.bool (decide_eq_true rfl))) rfl (by kernel_rfl) ?_
    refine xm_take 3 (m' := 15) rfl (by kernel_rfl) Sb.refl (rd_move rfl) rfl (by kernel_rfl) ?_
    refine xm_gtake 4 (m' := 31) rfl (by kernel_rfl) Sb.refl rfl rfl (rd_loadB rfl Kn.o1 (by rfl)) rfl (by kernel_rfl) ?_
    refine xm_gtake 6 (m' := 95) rfl (by kernel_rfl) Sb.refl rfl rfl (rd_loadB rfl Kn.o0 (by rfl)) rfl (by kernel_rfl) ?_
    refine xm_gone 5 (m' := 127) rfl (by kernel_rfl) rfl rfl rfl (by kernel_rfl) (ef_call rfl (XF.mono (xf_doc2 x (h1.mono (by intro z hz; simp [hz])) (by omega)) ?_))
    rintro v L' ⟨y', rfl, hyq, hyo, rfl⟩
    refine ⟨(by first | exact Sb.refl | exact Sb.nil | (repeat (first | exact Sb.nil | exact Sb.refl | exact Sb.app0 | apply Sb.keep | apply Sb.keepApp | apply Sb.cons | apply Sb.app))), ?_⟩
    refine xm_gone 7 (m' := 255) rfl (by kernel_rfl) rfl rfl rfl (by kernel_rfl) (ef_call rfl (XF.mono (xf_rsame2 y' y true (decide_eq_true (hyq.trans hq)) (SlO.rs hyo (by intro z hz; simp [hz])) (h2.mono (by intro z hz; simp [hz])) (by rw [hyq]; exact hg) (by rw [← hq]; exact hg) (by rw [hyq]; omega)) ?_))
    rintro v L' ⟨rfl, rfl⟩
    refine ⟨(by first | exact Sb.refl | exact Sb.nil | (repeat (first | exact Sb.nil | exact Sb.refl | exact Sb.app0 | apply Sb.keep | apply Sb.keepApp | apply Sb.cons | apply Sb.app))), ?_⟩
    refine xm_take 8 (m' := 511) rfl (by kernel_rfl) (by first | exact Sb.refl | exact Sb.nil | (repeat (first | exact Sb.nil | exact Sb.refl | exact Sb.app0 | apply Sb.keep | apply Sb.keepApp | apply Sb.cons | apply Sb.app))) (rd_pickt rfl rfl) rfl (by kernel_rfl) ?_
    refine xm_take 9 (m' := 1023) rfl (by kernel_rfl) (by first | exact Sb.refl | exact Sb.nil | (repeat (first | exact Sb.nil | exact Sb.refl | exact Sb.app0 | apply Sb.keep | apply Sb.keepApp | apply Sb.cons | apply Sb.app))) (rd_assign rfl) rfl (by kernel_rfl) ?_
    refine xm_done (by kernel_rfl) ?_
    refine xq_seq ?_
    refine xc_ret ?_
  all_goals exact xq_sub (((List.sublist_cons_self _ _).trans (List.sublist_cons_self _ _)).trans (List.sublist_append_right y'.l _)) (xq_ret1 (.inl rfl) Try.results36 rfl ⟨rfl, rfl⟩)
def fewP (xs : List Ck) (a b c : Nat) : Bool := decide ((∀ x, x ∈ xs → x.nm.size ≤ 300) ∧ a ≤ 40 ∧ xs.length ≤ 40 ∧ b ≤ 40 ∧ c ≤ 300)
set_option maxHeartbeats 4000000 in
theorem xf_fewP {W : World} {L : List Blk} (x : Sn) (ps : Option Addr) (m cs : Nat) (p : Option Addr) (n c : Nat) (xs : List Ck) (pb : Option Addr) (k cb : Nat) (re : ByteArray) (r : Bool) (hres : fewP xs m k re.size = r) (hx : xs.length = n) (hr : Rs W L p (xs.flatMap Ck.enc)) (hn : n ≤ 9223372036854775807) :
    XF Try.prog W 23 #[.agg (x.enc (.slice ps m cs)).toArray, .slice p n c, .agg #[.slice pb k cb, .string re]] L (fun v L' => v = .bool r ∧ L' = L) := by
  subst hres
  refine xf_enter (args := [_, _, _]) Try.func23 rfl Try.ntmps23 rfl ?_
  obtain ⟨ss, nt, rt, pk, oc, bl⟩ := x
  unfold Sn.enc
  dsimp only
  focus
    refine xc_seq ?_
    refine xc_region ?_
    refine xo_ef rfl (ef_box rfl fun r3 => ?_)
    refine xo_ef rfl (ef_box rfl fun r5 => ?_)
    refine xo_rd (rd_assign rfl) rfl ?_
    refine xo_nil ?_
    refine xq_seq ?_
    refine xc_seq ?_
    refine xc_seq ?_
    refine xc_region ?_
    refine xo_rd (rd_assign rfl) rfl ?_
    refine xo_nil ?_
    refine xq_seq ?_
    refine xc_block ?_
  refine xc_loopK (ι := Nat) (fun i => i ≤ n ∧ ∀ x, x ∈ xs.take i → x.nm.size ≤ 300) (fun i => n - i) (fun i => [(1, .slice p n c), (3, .pointer (some ⟨r3, 0, none⟩)), (5, .pointer (some ⟨r5, 0, none⟩)), (7, .int .i64 i)]) 0 ⟨Nat.zero_le _, fun x h => by cases h⟩ (by repeat (first | exact keep_nil | refine keep_cons rfl ?_)) ?_
  rintro i ⟨hi, he⟩
  by_cases hin : i < n
  · obtain ⟨b, o, hp, hc⟩ := hr.rows Ck.len (by decide) (by omega)
    subst hp
    have hci := hc i (by omega)
    have e1 : xs.take (i + 1) = xs.take i ++ [xs[i]] := by rw [List.take_add_one, List.getElem?_eq_getElem (by omega)]; rfl
    have hm : xs[i] ∈ xs := List.getElem_mem _
    generalize xs[i] = x at *
    have hc1 : ∀ R, Cl W (R ++ L) b (o + (i : Int).toNat * 2 + 1) (.string x.nm) := fun R => (hci 1 _ rfl).mono fun _ h => List.mem_append_right _ h
    by_cases h3 : 300 < x.nm.size
    · focus
        refine xc_seq ?_
        refine xc_seq ?_
        refine xc_region ?_
        refine xo_rd (rd_move rfl) rfl ?_
        refine xo_rd (rd_move rfl) rfl ?_
        refine xo_rd (rd_len rfl) rfl ?_
        refine xo_rd (rd_lss rfl rfl) rfl ?_
        refine xo_nil ?_
        refine xq_seq ?_
        refine xc_dec rfl (fun hq1 => ?_) (fun hq1 => (by exfalso; omega))
        refine xc_skip ?_
        refine xq_seq ?_
        refine xc_seq ?_
        refine xc_block ?_
        refine xc_seq ?_
        refine xc_region ?_
        refine xo_rd (rd_move rfl) rfl ?_
        refine xo_rd (rd_move rfl) rfl ?_
        refine xo_rd (rd_indexAddr rfl rfl (by omega) (by omega)) rfl ?_
        refine xo_rd (rd_fieldAddr rfl) rfl ?_
        refine xo_rd (rd_load1 rfl (hc1 [_, _])) rfl ?_
        refine xo_rd (rd_lenStr rfl) rfl ?_
        refine xo_rd (rd_gtr rfl rfl) rfl ?_
        refine xo_nil ?_
        refine xq_seq ?_
        refine xc_dec rfl (fun hq2 => ?_) (fun hq2 => (by exfalso; omega))
        refine xc_seq ?_
        refine xc_region ?_
        refine xo_rd (rd_assign rfl) rfl ?_
        refine xo_nil ?_
        refine xq_seq ?_
        refine xc_ret ?_
        refine xq_block_ret ?_
        refine xq_then_ret ?_
        refine xq_then_ret ?_
        refine xq_block_ret ?_
        refine xq_then_ret ?_
      refine xq_tail (xq_tail (xq_ret1 (.inl rfl) Try.results23 rfl ⟨congrArg Value.bool (decide_eq_false fun h => ?_).symm, rfl⟩))
      have := h.1 x hm
      omega
    · focus
        refine xc_seq ?_
        refine xc_seq ?_
        refine xc_region ?_
        refine xo_rd (rd_move rfl) rfl ?_
        refine xo_rd (rd_move rfl) rfl ?_
        refine xo_rd (rd_len rfl) rfl ?_
        refine xo_rd (rd_lss rfl rfl) rfl ?_
        refine xo_nil ?_
        refine xq_seq ?_
        refine xc_dec rfl (fun hq1 => ?_) (fun hq1 => (by exfalso; omega))
        refine xc_skip ?_
        refine xq_seq ?_
        refine xc_seq ?_
        refine xc_block ?_
        refine xc_seq ?_
        refine xc_region ?_
        refine xo_rd (rd_move rfl) rfl ?_
        refine xo_rd (rd_move rfl) rfl ?_
        refine xo_rd (rd_indexAddr rfl rfl (by omega) (by omega)) rfl ?_
        refine xo_rd (rd_fieldAddr rfl) rfl ?_
        refine xo_rd (rd_load1 rfl (hc1 [_, _])) rfl ?_
        refine xo_rd (rd_lenStr rfl) rfl ?_
        refine xo_rd (rd_gtr rfl rfl) rfl ?_
        refine xo_nil ?_
        refine xq_seq ?_
        refine xc_dec rfl (fun hq2 => (by exfalso; omega)) (fun hq2 => ?_)
        refine xc_skip ?_
        refine xq_block ?_
        refine xq_seq ?_
        refine xc_region ?_
        refine xo_rd (rd_move rfl) rfl ?_
        refine xo_rd (rd_addn rfl rfl (by omega) (by omega)) rfl ?_
        refine xo_rd (rd_assign rfl) rfl ?_
        refine xo_nil ?_
      refine xq_roundK rfl (i + 1) ⟨by omega, fun z hz => ?_⟩ (by omega) (List.Sublist.refl _) (by repeat (first | exact keep_nil | refine keep_cons rfl ?_))
      rw [e1] at hz
      rcases List.mem_append.1 hz with h | h
      · exact he z h
      · rw [List.mem_singleton.1 h]; omega
  · obtain rfl : i = n := by omega
    rw [List.take_of_length_le (by omega)] at he
    unfold fewP
    by_cases hf : m ≤ 40 ∧ xs.length ≤ 40 ∧ k ≤ 40 ∧ re.size ≤ 300
    · rw [decide_eq_true ⟨he, hf⟩]
      obtain ⟨f1, f2, f3, f4⟩ := hf
      focus
        refine xc_seq ?_
        refine xc_seq ?_
        refine xc_region ?_
        refine xo_rd (rd_move rfl) rfl ?_
        refine xo_rd (rd_move rfl) rfl ?_
        refine xo_rd (rd_len rfl) rfl ?_
        refine xo_rd (rd_lss rfl rfl) rfl ?_
        refine xo_nil ?_
        refine xq_seq ?_
        refine xc_dec rfl (fun hq1 => (by exfalso; omega)) (fun hq1 => ?_)
        refine xc_exit ?_
        refine xq_then_exit ?_
        refine xq_then_exit ?_
        refine xq_block_hit ?_
        refine xq_seq ?_
        refine xc_seq ?_
        refine xc_region ?_
        refine xo_rd (rd_fieldAddr rfl) rfl ?_
        refine xo_rd (rd_load1 rfl (Cl.o1 rfl)) rfl ?_
        refine xo_rd (rd_len rfl) rfl ?_
        refine xo_rd (rd_leq rfl rfl) rfl ?_
        refine xo_rd (rd_move rfl) rfl ?_
        refine xo_dec 25 rfl (fun hq2 => ?_) (fun hq2 => (by exfalso; omega))
        refine xo_grd rfl rfl (rd_move rfl) rfl ?_
        refine xo_grd rfl rfl (rd_len rfl) rfl ?_
        refine xo_grd rfl rfl (rd_leq rfl rfl) rfl ?_
        refine xo_rd (rd_pickt rfl rfl) rfl ?_
        refine xo_rd (rd_move rfl) rfl ?_
        refine xo_dec 30 rfl (fun hq3 => ?_) (fun hq3 => (by exfalso; omega))
        refine xo_grd rfl rfl (rd_fieldAddr rfl) rfl ?_
        refine xo_grd rfl rfl (rd_load1 rfl (Cl.o0 rfl)) rfl ?_
        refine xo_grd rfl rfl (rd_len rfl) rfl ?_
        refine xo_grd rfl rfl (rd_leq rfl rfl) rfl ?_
        refine xo_rd (rd_pickt rfl rfl) rfl ?_
        refine xo_rd (rd_move rfl) rfl ?_
        refine xo_dec 36 rfl (fun hq4 => ?_) (fun hq4 => (by exfalso; omega))
        refine xo_grd rfl rfl (rd_fieldAddr rfl) rfl ?_
        refine xo_grd rfl rfl (rd_load1 rfl (Cl.o0 rfl)) rfl ?_
        refine xo_grd rfl rfl (rd_lenStr rfl) rfl ?_
        refine xo_grd rfl rfl (rd_leq rfl rfl) rfl ?_
        refine xo_rd (rd_pickt rfl rfl) rfl ?_
        refine xo_rd (rd_assign rfl) rfl ?_
        refine xo_nil ?_
        refine xq_seq ?_
        refine xc_ret ?_
      all_goals exact xq_tail (xq_tail (xq_ret1 (.inl rfl) Try.results23 rfl ⟨congrArg Value.bool (decide_eq_true (by omega)), rfl⟩))
    · rw [decide_eq_false fun h => hf h.2]
      focus
        refine xc_seq ?_
        refine xc_seq ?_
        refine xc_region ?_
        refine xo_rd (rd_move rfl) rfl ?_
        refine xo_rd (rd_move rfl) rfl ?_
        refine xo_rd (rd_len rfl) rfl ?_
        refine xo_rd (rd_lss rfl rfl) rfl ?_
        refine xo_nil ?_
        refine xq_seq ?_
        refine xc_dec rfl (fun hq1 => (by exfalso; omega)) (fun hq1 => ?_)
        refine xc_exit ?_
        refine xq_then_exit ?_
        refine xq_then_exit ?_
        refine xq_block_hit ?_
        refine xq_seq ?_
        refine xc_seq ?_
        refine xc_region ?_
        refine xo_rd (rd_fieldAddr rfl) rfl ?_
        refine xo_rd (rd_load1 rfl (Cl.o1 rfl)) rfl ?_
        refine xo_rd (rd_len rfl) rfl ?_
        refine xo_rd (rd_leq rfl rfl) rfl ?_
        refine xo_rd (rd_move rfl) rfl ?_
        refine xo_dec 25 rfl (fun hq2 => ?_) (fun hq2 => ?_)
        refine xo_grd rfl rfl (rd_move rfl) rfl ?_
        refine xo_grd rfl rfl (rd_len rfl) rfl ?_
        refine xo_grd rfl rfl (rd_leq rfl rfl) rfl ?_
        refine xo_rd (rd_pickt rfl rfl) rfl ?_
        refine xo_rd (rd_move rfl) rfl ?_
        refine xo_dec 30 rfl (fun hq3 => ?_) (fun hq3 => ?_)
        refine xo_grd rfl rfl (rd_fieldAddr rfl) rfl ?_
        refine xo_grd rfl rfl (rd_load1 rfl (Cl.o0 rfl)) rfl ?_
        refine xo_grd rfl rfl (rd_len rfl) rfl ?_
        refine xo_grd rfl rfl (rd_leq rfl rfl) rfl ?_
        refine xo_rd (rd_pickt rfl rfl) rfl ?_
        refine xo_rd (rd_move rfl) rfl ?_
        refine xo_dec 36 rfl (fun hq4 => ?_) (fun hq4 => ?_)
        refine xo_grd rfl rfl (rd_fieldAddr rfl) rfl ?_
        refine xo_grd rfl rfl (rd_load1 rfl (Cl.o0 rfl)) rfl ?_
        refine xo_grd rfl rfl (rd_lenStr rfl) rfl ?_
        refine xo_grd rfl rfl (rd_leq rfl rfl) rfl ?_
        refine xo_rd (rd_pickt rfl rfl) rfl ?_
        refine xo_rd (rd_assign rfl) rfl ?_
        refine xo_nil ?_
        refine xq_seq ?_
        refine xc_ret ?_
        rotate_left
        refine xo_gskip rfl rfl rfl rfl ?_
        refine xo_gskip rfl rfl rfl rfl ?_
        refine xo_gskip rfl rfl rfl rfl ?_
        refine xo_gskip rfl rfl rfl rfl ?_
        refine xo_rd (rd_pickf rfl rfl) rfl ?_
        refine xo_rd (rd_assign rfl) rfl ?_
        refine xo_nil ?_
        refine xq_seq ?_
        refine xc_ret ?_
        rotate_left
        refine xo_gskip rfl rfl rfl rfl ?_
        refine xo_gskip rfl rfl rfl rfl ?_
        refine xo_gskip rfl rfl rfl rfl ?_
        refine xo_gskip rfl rfl rfl rfl ?_
        refine xo_rd (rd_pickf rfl rfl) rfl ?_
        refine xo_rd (rd_move rfl) rfl ?_
        refine xo_gskip rfl rfl rfl rfl ?_
        refine xo_gskip rfl rfl rfl rfl ?_
        refine xo_gskip rfl rfl rfl rfl ?_
        refine xo_gskip rfl rfl rfl rfl ?_
        refine xo_rd (rd_pickf rfl rfl) rfl ?_
        refine xo_rd (rd_assign rfl) rfl ?_
        refine xo_nil ?_
        refine xq_seq ?_
        refine xc_ret ?_
        rotate_left
        refine xo_gskip rfl rfl rfl rfl ?_
        refine xo_gskip rfl rfl rfl rfl ?_
        refine xo_gskip rfl rfl rfl rfl ?_
        refine xo_rd (rd_pickf rfl rfl) rfl ?_
        refine xo_rd (rd_move rfl) rfl ?_
        refine xo_gskip rfl rfl rfl rfl ?_
        refine xo_gskip rfl rfl rfl rfl ?_
        refine xo_gskip rfl rfl rfl rfl ?_
        refine xo_gskip rfl rfl rfl rfl ?_
        refine xo_rd (rd_pickf rfl rfl) rfl ?_
        refine xo_rd (rd_move rfl) rfl ?_
        refine xo_gskip rfl rfl rfl rfl ?_
        refine xo_gskip rfl rfl rfl rfl ?_
        refine xo_gskip rfl rfl rfl rfl ?_
        refine xo_gskip rfl rfl rfl rfl ?_
        refine xo_rd (rd_pickf rfl rfl) rfl ?_
        refine xo_rd (rd_assign rfl) rfl ?_
        refine xo_nil ?_
        refine xq_seq ?_
        refine xc_ret ?_
        rotate_left
      all_goals first | exact xq_tail (xq_tail (xq_ret1 (.inl rfl) Try.results23 rfl ⟨rfl, rfl⟩)) | exact xq_tail (xq_tail (xq_ret1 (.inl rfl) Try.results23 rfl ⟨congrArg Value.bool (decide_eq_false (by omega)), rfl⟩))
end Go.Proofs.Ytohlaabclifbfaa.X
/-
  What is put is right, and told as it was: plain laws, no program.
-/
namespace Go.Proofs.Ytohlaabclifbfaa.X
open Go Go.RowKit
set_option linter.unusedVariables false
set_option linter.unusedSimpArgs false
theorem take_app (xs ys : List Int) (k n : Nat) (h : xs.length = n) : (⟨xs ++ ys, k, false⟩ : Rd).take n = (xs, ⟨ys, k + n, false⟩) := by
  subst h
  rw [Rd.take_ok (by simp)]
  dsimp only
  rw [List.take_left, List.drop_left]
theorem take_be4 (z : Int) (ys : List Int) (k : Nat) : (⟨be4 z ++ ys, k, false⟩ : Rd).take 4 = (be4 z, ⟨ys, k + 4, false⟩) := take_app _ _ _ _ rfl
theorem Bk.vals {x : Bk} (h : x.Rg) (hf : x.fit = true) : (x.lo * 16777216 + x.to % 16777216) / 16777216 = x.lo ∧ to24 (x.lo * 16777216 + x.to % 16777216) = x.to ∧ U4 (x.lo * 16777216 + x.to % 16777216) := by
  have h1 := h.lo; have h2 := h.to
  have h3 := of_decide_eq_true hf
  unfold By at h1
  refine ⟨by omega, ?_, by unfold U4; omega⟩
  unfold to24
  rw [wrap32, IntKind.wrap_i32]
  have : (x.lo * 16777216 + x.to % 16777216) * 256 % 4294967296 = x.to % 16777216 * 256 := by omega
  rw [this]
  omega
theorem blk_app {x : Bk} (h : x.Rg) (hf : x.fit = true) (ys : List Int) (k : Nat) : (⟨bkL x ++ ys, k, false⟩ : Rd).blk = (x, ⟨ys, k + 4 + 4 + 4 + 4 + 4 + 4, false⟩) := by
  obtain ⟨v1, v2, v3⟩ := Bk.vals h hf
  have e : bkL x ++ ys = be4 x.ss ++ (be4 (x.lo * 16777216 + x.to % 16777216) ++ (be4 x.hi ++ (be4 x.ji ++ (be4 x.ls ++ (be4 x.dl ++ ys))))) := by
    unfold bkL Bk.nums
    simp only [List.flatMap_cons, List.flatMap_nil, List.append_nil, List.append_assoc]
  rw [e]
  unfold Rd.blk
  simp only [take_be4]
  rw [vl_be4 _ h.ss.1 h.ss.2, vl_be4 _ v3.1 v3.2, vl_be4 _ h.hi.1 h.hi.2, vl_be4 _ h.ji.1 h.ji.2, vl_be4 _ h.ls.1 h.ls.2, vl_be4 _ h.dl.1 h.dl.2, v1, v2]
theorem blks_app : ∀ (xs : List Bk) (ys : List Int) (k : Nat), (∀ x, x ∈ xs → x.Rg) → (∀ x, x ∈ xs → x.fit = true) → ∃ k', Rd.blks xs.length ⟨xs.flatMap bkL ++ ys, k, false⟩ = (xs, ⟨ys, k', false⟩)
  | [], ys, k, _, _ => ⟨k, rfl⟩
  | x :: r, ys, k, hg, hf => by
    obtain ⟨k', h⟩ := blks_app r ys (k + 4 + 4 + 4 + 4 + 4 + 4) (fun z hz => hg z (List.mem_cons_of_mem _ hz)) (fun z hz => hf z (List.mem_cons_of_mem _ hz))
    refine ⟨k', ?_⟩
    rw [List.flatMap_cons, List.append_assoc, List.length_cons, Rd.blks, blk_app (hg x (List.mem_cons_self ..)) (hf x (List.mem_cons_self ..))]
    dsimp only
    rw [h]
theorem ofSn_put {x : Sn} (hx : x.Rg) {q : Pc} (h : sndR x = (q, 0)) : ofSn q = (x, 0) ∧ q.Right ∧ q.Rg := by
  unfold sndR at h
  split at h
  · rename_i hb
    obtain ⟨h31, hb1, hfit⟩ := blkR_ok hb
    simp only [Prod.mk.injEq, and_true] at h
    subst h
    have hsn : (rd0 ⟨(x.bl.length : Int), 200, x.nums.flatMap be4 ++ x.bl.flatMap bkL, 0⟩).sn x.bl.length = (x, ((rd0 ⟨(x.bl.length : Int), 200, x.nums.flatMap be4 ++ x.bl.flatMap bkL, 0⟩).sn x.bl.length).2) ∧ ((rd0 ⟨(x.bl.length : Int), 200, x.nums.flatMap be4 ++ x.bl.flatMap bkL, 0⟩).sn x.bl.length).2.bad = false := by
      obtain ⟨k', hk⟩ := blks_app x.bl [] (0 + 4 + 4 + 4 + 4 + 4 + 4) hx.bl hfit
      rw [List.append_nil] at hk
      have e : x.nums.flatMap be4 ++ x.bl.flatMap bkL = be4 x.ss ++ (be4 (x.nt / 4294967296) ++ (be4 (x.nt % 4294967296) ++ (be4 x.rt ++ (be4 x.pk ++ (be4 x.oc ++ x.bl.flatMap bkL))))) := by
        unfold Sn.nums
        simp only [List.flatMap_cons, List.flatMap_nil, List.append_nil, List.append_assoc]
      have g2 := hx.nt
      have hfull : (rd0 ⟨(x.bl.length : Int), 200, x.nums.flatMap be4 ++ x.bl.flatMap bkL, 0⟩).sn x.bl.length = (x, ⟨[], k', false⟩) := by
        unfold rd0 Rd.sn
        dsimp only
        rw [e]
        simp only [take_be4]
        rw [hk, vl_be4 _ hx.ss.1 hx.ss.2, vl_be4 _ (by omega) (by omega), vl_be4 _ (by omega) (by omega), vl_be4 _ hx.rt.1 hx.rt.2, vl_be4 _ hx.pk.1 hx.pk.2, vl_be4 _ hx.oc.1 hx.oc.2, show x.nt / 4294967296 * 4294967296 + x.nt % 4294967296 = x.nt from by omega]
      rw [hfull]
      exact ⟨rfl, rfl⟩
    obtain ⟨h1, h2⟩ := hsn
    have htold : toldE ⟨(x.bl.length : Int), 200, x.nums.flatMap be4 ++ x.bl.flatMap bkL, 0⟩ ((rd0 ⟨(x.bl.length : Int), 200, x.nums.flatMap be4 ++ x.bl.flatMap bkL, 0⟩).sn x.bl.length).2 200 false = 0 := by
      unfold toldE
      rw [if_neg (by simp), if_neg (by rw [h2]; simp)]
    refine ⟨?_, ?_, ?_⟩
    · unfold ofSn
      dsimp only
      rw [show ((x.bl.length : Int)).toNat = x.bl.length from rfl, htold, if_pos rfl, h1]
    · refine ⟨by dsimp only; omega, ?_, rfl, ?_⟩
      · dsimp only; rw [List.length_append, flat4_len, bkLs_len]; omega
      · dsimp only; rw [List.length_append, flat4_len, bkLs_len]; show ((4 * 6 + 24 * x.bl.length : Nat) : Int) + 0 ≤ _; omega
    · refine ⟨⟨by dsimp only; omega, by dsimp only; omega⟩, (show By 200 from ⟨by decide, by decide⟩), fun z hz => ?_, (show By 0 from ⟨by decide, by decide⟩)⟩
      dsimp only at hz
      rcases List.mem_append.1 hz with h | h
      · obtain ⟨n, _, hn⟩ := List.mem_flatMap.1 h
        exact be4_by n z hn
      · obtain ⟨b, _, hn⟩ := List.mem_flatMap.1 h
        obtain ⟨n, _, hn⟩ := List.mem_flatMap.1 hn
        exact be4_by n z hn
  · simp at h
theorem ofRc_put {ss : Int} (hs : U4 ss) {bl : List Bk} (hg : ∀ b, b ∈ bl → b.Rg) {q : Pc} (h : rcvR ss bl = (q, 0)) : ofRc q = ((ss, bl), 0) ∧ q.Right ∧ q.Rg := by
  unfold rcvR at h
  split at h
  · rename_i hb
    obtain ⟨h31, hb1, hfit⟩ := blkR_ok hb
    simp only [Prod.mk.injEq, and_true] at h
    subst h
    obtain ⟨k', hk⟩ := blks_app bl [] (0 + 4) hg hfit
    rw [List.append_nil] at hk
    have hfull : (rd0 ⟨(bl.length : Int), 201, [ss].flatMap be4 ++ bl.flatMap bkL, 0⟩).rc bl.length = ((ss, bl), ⟨[], k', false⟩) := by
      unfold rd0 Rd.rc
      dsimp only
      rw [List.flatMap_singleton]
      simp only [take_be4]
      rw [hk, vl_be4 _ hs.1 hs.2]
    refine ⟨?_, ?_, ?_⟩
    · unfold ofRc
      dsimp only
      rw [show ((bl.length : Int)).toNat = bl.length from rfl, hfull]
      rfl
    · refine ⟨by dsimp only; omega, ?_, rfl, ?_⟩
      · dsimp only; rw [List.length_append, flat4_len, bkLs_len]; simp; omega
      · dsimp only; rw [List.length_append, flat4_len, bkLs_len]; show ((4 * 1 + 24 * bl.length : Nat) : Int) + 0 ≤ _; omega
    · refine ⟨⟨by dsimp only; omega, by dsimp only; omega⟩, (show By 201 from ⟨by decide, by decide⟩), fun z hz => ?_, (show By 0 from ⟨by decide, by decide⟩)⟩
      dsimp only at hz
      rcases List.mem_append.1 hz with h | h
      · obtain ⟨n, _, hn⟩ := List.mem_flatMap.1 h
        exact be4_by n z hn
      · obtain ⟨b, _, hn⟩ := List.mem_flatMap.1 h
        obtain ⟨n, _, hn⟩ := List.mem_flatMap.1 hn
        exact be4_by n z hn
  · simp at h
/-! ### who goes -/
theorem strOfNums_sbs (s : ByteArray) : strOfNums (sbs s) = s := by
  unfold strOfNums sbs
  cases s with
  | mk d =>
    congr 1
    rw [List.map_map]
    have : (fun n : Int => UInt8.ofNat n.toNat) ∘ (fun b : UInt8 => (b.toNat : Int)) = id := by
      funext b
      simp
    rw [this, List.map_id]
theorem lgs_app : ∀ (xs : List Int) (ys : List Int) (k : Nat), (∀ x, x ∈ xs → U4 x) → Rd.lgs xs.length ⟨xs.flatMap be4 ++ ys, k, false⟩ = (xs, ⟨ys, k + 4 * xs.length, false⟩)
  | [], ys, k, _ => rfl
  | x :: r, ys, k, h => by
    have h0 := h x (List.mem_cons_self ..)
    rw [List.flatMap_cons, List.append_assoc, List.length_cons, Rd.lgs, take_be4]
    dsimp only
    rw [lgs_app r ys (k + 4) (fun z hz => h z (List.mem_cons_of_mem _ hz)), vl_be4 _ h0.1 h0.2]
    dsimp only
    rw [show k + 4 + 4 * r.length = k + 4 * (r.length + 1) from by omega]
theorem text_app (xs ys : List Int) (k : Nat) : Rd.text ⟨(xs.length : Int) :: (xs ++ ys), k, false⟩ = (xs, ⟨ys, k + 1 + xs.length, false⟩) := by
  unfold Rd.text
  have e := take_app [(xs.length : Int)] (xs ++ ys) k 1 rfl
  rw [List.singleton_append] at e
  rw [e]
  dsimp only
  rw [show ([(xs.length : Int)].getD 0 0).toNat = xs.length from rfl, take_app _ _ _ _ rfl]
theorem fill_app (ys : List Int) (k : Nat) : Rd.fill ⟨List.replicate ((4 - k % 4) % 4) 0 ++ ys, k, false⟩ = ⟨ys, k + (4 - k % 4) % 4, false⟩ := by
  unfold Rd.fill
  dsimp only
  rw [take_app _ _ _ _ (by simp)]
theorem sbs_by (s : ByteArray) : ∀ x, x ∈ sbs s → By x := fun x hx => by
  unfold sbs at hx
  obtain ⟨b, _, rfl⟩ := List.mem_map.1 hx
  have := b.toNat_lt
  unfold By; omega
theorem byeB_by {x : By'} (hm : x.re.size ≤ 255) : ∀ z, z ∈ byeB x → By z := fun z hz => by
  unfold byeB at hz
  have h4 : ∀ z, z ∈ x.so.flatMap be4 → By z := fun z h => by
    obtain ⟨n, _, hn⟩ := List.mem_flatMap.1 h
    exact be4_by n z hn
  split at hz
  · exact h4 z hz
  · unfold fil at hz
    rcases List.mem_append.1 hz with h | h
    · rcases List.mem_append.1 h with h | h
      · rcases List.mem_append.1 h with h | h
        · exact h4 z h
        · rw [List.mem_singleton.1 h]; unfold By; omega
      · exact sbs_by _ z h
    · rw [(List.mem_replicate.1 h).2]; exact ⟨by decide, by decide⟩
theorem byeB_len (x : By') : (byeB x).length % 4 = 0 ∧ (byeB x).length ≤ 4 * x.so.length + x.re.size + 4 := by
  unfold byeB
  split
  · rw [flat4_len]; omega
  · rw [fil_len]
    simp only [List.length_append, flat4_len, sbs_len, List.length_singleton]
    omega
theorem ofBy_put {x : By'} (hu : ∀ z, z ∈ x.so → U4 z) {q : Pc} (h : putBy x = (q, 0)) : ofBy q = (x, 0) ∧ q.Right ∧ q.Rg := by
  unfold putBy at h
  split at h
  · simp at h
  · rename_i hb
    simp only [Prod.mk.injEq, and_true] at h
    subst h
    have hl := byeB_len x
    have hfull : ∃ k', (rd0 ⟨(x.so.length : Int), 203, byeB x, 0⟩).bye x.so.length = (x, ⟨[], k', false⟩) := by
      unfold rd0 Rd.bye
      dsimp only
      obtain ⟨so, re⟩ := x
      unfold byeB
      dsimp only at hu ⊢
      by_cases h0 : re.size = 0
      · rw [if_pos h0]
        have := lgs_app so [] 0 hu
        rw [List.append_nil] at this
        rw [this]
        obtain rfl := nm_size0.1 h0
        exact ⟨_, rfl⟩
      · rw [if_neg h0]
        have e : fil (so.flatMap be4 ++ [(re.size : Int)] ++ sbs re) = so.flatMap be4 ++ (((sbs re).length : Int) :: (sbs re ++ (List.replicate ((4 - (0 + 4 * so.length + 1 + (sbs re).length) % 4) % 4) 0 ++ []))) := by
          unfold fil
          rw [show (so.flatMap be4 ++ [(re.size : Int)] ++ sbs re).length = 0 + 4 * so.length + 1 + (sbs re).length from by simp only [List.length_append, flat4_len, List.length_singleton]; omega, sbs_len]
          simp only [List.append_assoc, List.append_nil, List.singleton_append, List.cons_append, List.nil_append]
        rw [e, lgs_app so _ 0 hu]
        dsimp only
        rw [if_pos (by simp), text_app, strOfNums_sbs]
        dsimp only
        rw [fill_app]
        exact ⟨_, rfl⟩
    obtain ⟨k', hfull⟩ := hfull
    refine ⟨?_, ?_, ?_⟩
    · unfold ofBy
      dsimp only
      rw [show ((x.so.length : Int)).toNat = x.so.length from rfl, hfull]
      rfl
    · exact ⟨by dsimp only; omega, hl.1, rfl, by dsimp only; omega⟩
    · exact ⟨⟨by dsimp only; omega, by dsimp only; omega⟩, (show By 203 from ⟨by decide, by decide⟩), byeB_by (by omega), (show By 0 from ⟨by decide, by decide⟩)⟩
/-! ### chunks -/
def chB (x : Ck) : List Int := fil (be4 x.ss ++ (nameL x.nm ++ [0]))
theorem chB_len (x : Ck) : (chB x).length % 4 = 0 := by
  unfold chB
  rw [fil_len]; omega
theorem chA_eq (acc : List Int) (x : Ck) (h : acc.length % 4 = 0) : chA acc x = acc ++ chB x := by
  unfold chA chB fil
  rw [List.flatMap_singleton]
  have : (4 - (acc ++ be4 x.ss ++ nameL x.nm ++ [0]).length % 4) % 4 = (4 - (be4 x.ss ++ (nameL x.nm ++ [0])).length % 4) % 4 := by
    simp only [List.length_append]; omega
  rw [this]
  simp only [List.append_assoc]
theorem chunksL_from : ∀ (l : List Ck) (acc : List Int), acc.length % 4 = 0 → l.foldl chA acc = acc ++ l.flatMap chB
  | [], acc, _ => (List.append_nil _).symm
  | x :: r, acc, h => by
    rw [List.foldl_cons, chA_eq acc x h, chunksL_from r (acc ++ chB x) (by rw [List.length_append]; have := chB_len x; omega), List.flatMap_cons, List.append_assoc]
theorem chunksL_eq (l : List Ck) : chunksL l = l.flatMap chB := chunksL_from l [] rfl
theorem chunk_app {x : Ck} (hs : U4 x.ss) (hm : x.nm.size ≤ 255) (ys : List Int) (k : Nat) (hk : k % 4 = 0) : (⟨chB x ++ ys, k, false⟩ : Rd).chunk = (x, ⟨ys, k + (chB x).length, false⟩) := by
  obtain ⟨ss, nm⟩ := x
  dsimp only at hs hm
  unfold Rd.chunk Rd.itm
  have e : chB ⟨ss, nm⟩ ++ ys = be4 ss ++ (nameL nm ++ (0 :: (List.replicate ((4 - (k + 4 + (nameL nm).length + 1) % 4) % 4) 0 ++ ys))) := by
    unfold chB fil
    have : (4 - (be4 ss ++ (nameL nm ++ [0])).length % 4) % 4 = (4 - (k + 4 + (nameL nm).length + 1) % 4) % 4 := by
      simp only [List.length_append, List.length_singleton, show (be4 ss).length = 4 from rfl]; omega
    dsimp only
    rw [this]
    simp only [List.append_assoc, List.singleton_append, List.cons_append, List.nil_append]
  have el : (chB ⟨ss, nm⟩).length = 4 + (nameL nm).length + 1 + (4 - (k + 4 + (nameL nm).length + 1) % 4) % 4 := by
    unfold chB
    rw [fil_len]
    simp only [List.length_append, List.length_singleton, show (be4 ss).length = 4 from rfl]
    omega
  rw [e, take_be4, vl_be4 _ hs.1 hs.2]
  dsimp only
  have hz : ∀ (zs : List Int) (k : Nat), (⟨0 :: zs, k, false⟩ : Rd).take 1 = ([0], ⟨zs, k + 1, false⟩) := fun zs k => take_app [0] zs k 1 rfl
  by_cases h0 : nm.size = 0
  · have hn0 : nameL nm = [] := by unfold nameL; rw [if_pos h0]
    rw [hn0] at el ⊢
    rw [List.nil_append, hz]
    dsimp only
    have hi : ∀ K r, Rd.items K r (([0] : List Int).getD 0 0) false [] = ([], r) := fun K r => by
      cases K with
      | zero => rfl
      | succ K => rw [Rd.items, if_neg (fun h => h.1 rfl)]
    rw [hi]
    dsimp only
    rw [List.length_nil, Nat.add_zero, fill_app]
    obtain rfl := nm_size0.1 h0
    rw [el]
    refine Prod.ext rfl ?_
    show (⟨ys, _, false⟩ : Rd) = ⟨ys, _, false⟩
    congr 1
    simp only [List.length_nil]
    omega
  · have hnl : nameL nm = 1 :: ((sbs nm).length : Int) :: sbs nm := by unfold nameL; rw [if_neg h0, sbs_len]; rfl
    rw [hnl] at el ⊢
    rw [List.cons_append, List.cons_append]
    have h1 : ∀ (zs : List Int) (k : Nat), (⟨1 :: zs, k, false⟩ : Rd).take 1 = ([1], ⟨zs, k + 1, false⟩) := fun zs k => take_app [1] zs k 1 rfl
    rw [h1]
    dsimp only
    have hi : ∀ K r nm, Rd.items K r (([0] : List Int).getD 0 0) true nm = (nm, r) := fun K r nm => by
      cases K with
      | zero => rfl
      | succ K => rw [Rd.items, if_neg (fun h => h.1 rfl)]
    rw [Rd.items, if_pos ⟨by decide, rfl⟩, text_app]
    dsimp only
    rw [hz]
    dsimp only
    rw [show (false || decide (([1] : List Int).getD 0 0 = 1)) = true from rfl, hi, if_pos ⟨rfl, rfl⟩, strOfNums_sbs]
    dsimp only
    have hk2 : k + 4 + (1 :: ((sbs nm).length : Int) :: sbs nm).length + 1 = k + 4 + 1 + 1 + (sbs nm).length + 1 := by simp only [List.length_cons]; omega
    rw [hk2, fill_app, el, hk2]
    have : k + 4 + 1 + 1 + (sbs nm).length + 1 + (4 - (k + 4 + 1 + 1 + (sbs nm).length + 1) % 4) % 4 = k + (4 + (1 :: ((sbs nm).length : Int) :: sbs nm).length + 1 + (4 - (k + 4 + 1 + 1 + (sbs nm).length + 1) % 4) % 4) := by
      simp only [List.length_cons]; omega
    rw [this]
theorem chs_app : ∀ (xs : List Ck) (ys : List Int) (k : Nat), k % 4 = 0 → (∀ x, x ∈ xs → U4 x.ss ∧ x.nm.size ≤ 255) → ∃ k', Rd.chs xs.length ⟨xs.flatMap chB ++ ys, k, false⟩ = (xs, ⟨ys, k', false⟩)
  | [], ys, k, _, _ => ⟨k, rfl⟩
  | x :: r, ys, k, hk, h => by
    have h0 := h x (List.mem_cons_self ..)
    obtain ⟨k', h'⟩ := chs_app r ys (k + (chB x).length) (by have := chB_len x; omega) (fun z hz => h z (List.mem_cons_of_mem _ hz))
    refine ⟨k', ?_⟩
    rw [List.flatMap_cons, List.append_assoc, List.length_cons, Rd.chs, chunk_app h0.1 h0.2 _ _ hk]
    dsimp only
    rw [h']
theorem chB_by {x : Ck} (hm : x.nm.size ≤ 255) : ∀ z, z ∈ chB x → By z := fun z hz => by
  unfold chB fil at hz
  rcases List.mem_append.1 hz with h | h
  · rcases List.mem_append.1 h with h | h
    · exact be4_by _ z h
    · rcases List.mem_append.1 h with h | h
      · unfold nameL at h
        split at h
        · cases h
        · rcases List.mem_append.1 h with h | h
          · simp only [List.mem_cons, List.not_mem_nil, or_false] at h
            rcases h with rfl | rfl <;> (unfold By; omega)
          · exact sbs_by _ z h
      · rw [List.mem_singleton.1 h]; exact ⟨by decide, by decide⟩
  · rw [(List.mem_replicate.1 h).2]; exact ⟨by decide, by decide⟩
theorem chBs_len : ∀ (xs : List Ck), (∀ x, x ∈ xs → x.nm.size ≤ 255) → (xs.flatMap chB).length % 4 = 0 ∧ (xs.flatMap chB).length ≤ 300 * xs.length
  | [], _ => ⟨rfl, Nat.zero_le _⟩
  | x :: r, h => by
    obtain ⟨h1, h2⟩ := chBs_len r fun z hz => h z (List.mem_cons_of_mem _ hz)
    have h3 := chB_len x
    have h0 := nameL_len x.nm (h x (List.mem_cons_self ..))
    have h4 : (chB x).length ≤ 300 := by
      unfold chB
      rw [fil_len]
      simp only [List.length_append, List.length_singleton, show (be4 x.ss).length = 4 from rfl]
      omega
    rw [List.flatMap_cons, List.length_append, List.length_cons]
    omega
theorem ofCh_put {xs : List Ck} (hu : ∀ x, x ∈ xs → U4 x.ss) {q : Pc} (h : putCh xs = (q, 0)) : ofCh q = (xs, 0) ∧ q.Right ∧ q.Rg := by
  unfold putCh at h
  split at h
  · simp at h
  · rename_i ha
    split at h
    · simp at h
    · rename_i h31
      simp only [Prod.mk.injEq, and_true] at h
      subst h
      have hsm : ∀ x, x ∈ xs → x.nm.size ≤ 255 := fun x hx => by
        have : ¬ 255 < x.nm.size := fun hc => ha (List.any_eq_true.2 ⟨x, hx, decide_eq_true hc⟩)
        omega
      obtain ⟨k', hk⟩ := chs_app xs [] 0 rfl fun x hx => ⟨hu x hx, hsm x hx⟩
      rw [List.append_nil] at hk
      obtain ⟨l1, l2⟩ := chBs_len xs hsm
      rw [chunksL_eq]
      have hfull : (rd0 ⟨(xs.length : Int), 202, xs.flatMap chB, 0⟩).chs xs.length = (xs, ⟨[], k', false⟩) := hk
      refine ⟨?_, ?_, ?_⟩
      · unfold ofCh
        dsimp only
        rw [show ((xs.length : Int)).toNat = xs.length from rfl, hfull]
        rfl
      · exact ⟨by dsimp only; omega, l1, rfl, by dsimp only; omega⟩
      · refine ⟨⟨by dsimp only; omega, by dsimp only; omega⟩, (show By 202 from ⟨by decide, by decide⟩), fun z hz => ?_, (show By 0 from ⟨by decide, by decide⟩)⟩
        dsimp only at hz
        obtain ⟨x, hx, hn⟩ := List.mem_flatMap.1 hz
        exact chB_by (hsm x hx) z hn
end Go.Proofs.Ytohlaabclifbfaa.X
/-
  What is put and told, by names for its answers.
-/
namespace Go.Proofs.Ytohlaabclifbfaa.X
open Go Go.RowKit
set_option linter.unusedVariables false
set_option linter.unusedSimpArgs false
/-- A packet that was put: where it lies. -/
def PbM (L : List Blk) (q : Pc) (e : Int) (v : Value) (L' : List Blk) : Prop := ∃ x : Pb, v = .tuple #[.agg x.enc.toArray, .int .i64 e] ∧ x.q = q ∧ x.Ok ∧ L' = x.l ++ L
theorem PuM.to {L : List Blk} {z : Pc × Int} {q : Pc} {e : Int} (h : z = (q, e)) {v : Value} {L' : List Blk} (hp : PuM L z v L') : PbM L q e v L' := by subst h; exact hp
section
variable {W : World} {L : List Blk}
theorem xg_sender (x : Sn) (hx : x.Rg) (p : Option Addr) (c : Nat) (q : Pc) (e : Int) (hz : sndR x = (q, e)) (hr : Rs W L p (x.bl.flatMap Bk.enc)) (hn : x.bl.length ≤ 1000000) : XF Try.prog W 24 #[.agg (x.enc (.slice p x.bl.length c)).toArray] L (PbM L q e) := (xf_sender x hx p c hr hn).mono fun _ _ h => PuM.to hz h
theorem xg_receiver (ss : Int) (hs : U4 ss) (p : Option Addr) (n c : Nat) (xs : List Bk) (q : Pc) (e : Int) (hz : rcvR ss xs = (q, e)) (hx : xs.length = n) (hr : Rs W L p (xs.flatMap Bk.enc)) (hg : ∀ x, x ∈ xs → x.Rg) (hn : n ≤ 1000000) : XF Try.prog W 25 #[.agg #[.int .u32 ss, .slice p n c]] L (PbM L q e) := (xf_receiver ss hs p n c xs hx hr hg hn).mono fun _ _ h => PuM.to hz h
theorem xg_chunks (p : Option Addr) (n c : Nat) (xs : List Ck) (q : Pc) (e : Int) (hz : putCh xs = (q, e)) (hx : xs.length = n) (hr : Rs W L p (xs.flatMap Ck.enc)) (hg : ∀ x, x ∈ xs → U4 x.ss) (hn : n ≤ 1000000) : XF Try.prog W 26 #[.slice p n c] L (PbM L q e) := (xf_putChunks p n c xs hx hr hg hn).mono fun _ _ h => PuM.to hz h
theorem xg_bye (x : By') (p : Option Addr) (c : Nat) (q : Pc) (e : Int) (hz : putBy x = (q, e)) (hr : Rs W L p (ints .u32 x.so)) (hu : ∀ z, z ∈ x.so → U4 z) (hn : x.so.length ≤ 9223372036854775807) (hm : x.re.size ≤ 9223372036854775807) : XF Try.prog W 27 #[.agg (x.enc (.slice p x.so.length c)).toArray] L (PbM L q e) := (xf_bye x p c hr hu hn hm).mono fun _ _ h => PuM.to hz h
theorem xg_rsender (x : Sn) (hx : x.Rg) (p : Option Addr) (c : Nat) (q : Pc) (e : Int) (hz : sndR x = (q, e)) (hr : Rs W L p (x.bl.flatMap Bk.enc)) (hn : x.bl.length ≤ 1000000) : XF Try.prog W 28 #[.agg (x.enc (.slice p x.bl.length c)).toArray] L (PbM L q e) := (xf_rsender x hx p c hr hn).mono fun _ _ h => PuM.to hz h
theorem xg_rreceiver (ss : Int) (hs : U4 ss) (p : Option Addr) (n c : Nat) (xs : List Bk) (q : Pc) (e : Int) (hz : rcvR ss xs = (q, e)) (hx : xs.length = n) (hr : Rs W L p (xs.flatMap Bk.enc)) (hg : ∀ x, x ∈ xs → x.Rg) (hn : n ≤ 1000000) : XF Try.prog W 30 #[.agg #[.int .u32 ss, .slice p n c]] L (PbM L q e) := (xf_rreceiver ss hs p n c xs hx hr hg hn).mono fun _ _ h => PuM.to hz h
theorem xg_rchunks (p : Option Addr) (n c : Nat) (xs : List Ck) (q : Pc) (e : Int) (hz : putCh xs = (q, e)) (hx : xs.length = n) (hr : Rs W L p (xs.flatMap Ck.enc)) (hg : ∀ x, x ∈ xs → U4 x.ss) (hn : n ≤ 1000000) : XF Try.prog W 32 #[.slice p n c] L (PbM L q e) := (xf_rputChunks p n c xs hx hr hg hn).mono fun _ _ h => PuM.to hz h
theorem xg_rbye (x : By') (p : Option Addr) (c : Nat) (q : Pc) (e : Int) (hz : putBy x = (q, e)) (hr : Rs W L p (ints .u32 x.so)) (hu : ∀ z, z ∈ x.so → U4 z) (hn : x.so.length ≤ 9223372036854775807) (hm : x.re.size ≤ 9223372036854775807) : XF Try.prog W 34 #[.agg (x.enc (.slice p x.so.length c)).toArray] L (PbM L q e) := (xf_rbye x p c hr hu hn hm).mono fun _ _ h => PuM.to hz h
theorem xg_ofSender (y : Pb) (x : Sn) (hz : ofSn y.q = (x, 0)) (hr : Rs W L y.p (ints .u8 y.q.bd)) (hg : y.q.Rg) (hc : y.q.bd.length ≤ y.c) (hn : y.q.bd.length ≤ 1000000) : XF Try.prog W 37 #[.agg y.enc.toArray] L (fun v L' => ∃ s k l, v = .tuple #[.agg (x.enc (.slice s x.bl.length k)).toArray, .int .i64 0] ∧ SlO 7 95 (.slice s x.bl.length k) x.bl.length (x.bl.flatMap Bk.enc) l ∧ L' = l ++ L) := by
  have := xf_ofSender y hr hg hc hn
  rwa [hz] at this
theorem xg_ofReceiver (y : Pb) (ss : Int) (bl : List Bk) (hz : ofRc y.q = ((ss, bl), 0)) (hr : Rs W L y.p (ints .u8 y.q.bd)) (hg : y.q.Rg) (hc : y.q.bd.length ≤ y.c) (hn : y.q.bd.length ≤ 1000000) : XF Try.prog W 38 #[.agg y.enc.toArray] L (fun v L' => ∃ s k l, v = .tuple #[.agg #[.int .u32 ss, .slice s bl.length k], .int .i64 0] ∧ SlO 7 95 (.slice s bl.length k) bl.length (bl.flatMap Bk.enc) l ∧ L' = l ++ L) := by
  have := xf_ofReceiver y hr hg hc hn
  rwa [hz] at this
theorem xg_ofChunks (y : Pb) (xs : List Ck) (hz : ofCh y.q = (xs, 0)) (hr : Rs W L y.p (ints .u8 y.q.bd)) (hg : y.q.Rg) (hc : y.q.bd.length ≤ y.c) (hn : y.q.bd.length ≤ 1000000) : XF Try.prog W 41 #[.agg y.enc.toArray] L (fun v L' => ∃ s k l, v = .tuple #[.slice s xs.length k, .int .i64 0] ∧ SlO 2 97 (.slice s xs.length k) xs.length (xs.flatMap Ck.enc) l ∧ L' = l ++ L) := by
  have := xf_ofChunks y hr hg hc hn
  rwa [hz] at this
theorem xg_ofBye (y : Pb) (x : By') (hz : ofBy y.q = (x, 0)) (hr : Rs W L y.p (ints .u8 y.q.bd)) (hg : y.q.Rg) (hc : y.q.bd.length ≤ y.c) (hn : y.q.bd.length ≤ 1000000) : XF Try.prog W 43 #[.agg y.enc.toArray] L (fun v L' => ∃ s k l, v = .tuple #[.agg (x.enc (.slice s x.so.length k)).toArray, .int .i64 0] ∧ SlO 1 49 (.slice s x.so.length k) x.so.length (ints .u32 x.so) l ∧ L' = l ++ L) := by
  have := xf_ofBye y hr hg hc hn
  rwa [hz] at this
end
theorem sndR_rg {x : Sn} (hx : x.Rg) : (sndR x).1.Rg := by
  obtain ⟨⟨q, e⟩, h⟩ : ∃ z, sndR x = z := ⟨_, rfl⟩
  rw [h]
  by_cases he : e = 0
  · subst he; exact (ofSn_put hx h).2.2
  · unfold sndR at h
    split at h
    · simp only [Prod.mk.injEq] at h; exact absurd h.2.symm he
    · simp only [Prod.mk.injEq] at h; rw [← h.1]; exact Pc.zero_rg
theorem rcvR_rg {ss : Int} (hs : U4 ss) {bl : List Bk} (hg : ∀ b, b ∈ bl → b.Rg) : (rcvR ss bl).1.Rg := by
  obtain ⟨⟨q, e⟩, h⟩ : ∃ z, rcvR ss bl = z := ⟨_, rfl⟩
  rw [h]
  by_cases he : e = 0
  · subst he; exact (ofRc_put hs hg h).2.2
  · unfold rcvR at h
    split at h
    · simp only [Prod.mk.injEq] at h; exact absurd h.2.symm he
    · simp only [Prod.mk.injEq] at h; rw [← h.1]; exact Pc.zero_rg
theorem putCh_rg {xs : List Ck} (hu : ∀ x, x ∈ xs → U4 x.ss) : (putCh xs).1.Rg := by
  obtain ⟨⟨q, e⟩, h⟩ : ∃ z, putCh xs = z := ⟨_, rfl⟩
  rw [h]
  by_cases he : e = 0
  · subst he; exact (ofCh_put hu h).2.2
  · unfold putCh at h
    split at h
    · simp only [Prod.mk.injEq] at h; rw [← h.1]; exact Pc.zero_rg
    · split at h
      · simp only [Prod.mk.injEq] at h; rw [← h.1]; exact Pc.zero_rg
      · simp only [Prod.mk.injEq] at h; exact absurd h.2.symm he
theorem putBy_rg {x : By'} (hu : ∀ z, z ∈ x.so → U4 z) : (putBy x).1.Rg := by
  obtain ⟨⟨q, e⟩, h⟩ : ∃ z, putBy x = z := ⟨_, rfl⟩
  rw [h]
  by_cases he : e = 0
  · subst he; exact (ofBy_put hu h).2.2
  · unfold putBy at h
    split at h
    · simp only [Prod.mk.injEq] at h; rw [← h.1]; exact Pc.zero_rg
    · simp only [Prod.mk.injEq] at h; exact absurd h.2.symm he
theorem sndR_len (x : Sn) : (sndR x).1.bd.length ≤ 24 + 24 * x.bl.length := by
  unfold sndR
  split
  · dsimp only; rw [List.length_append, flat4_len, bkLs_len]; simp [Sn.nums]
  · exact Nat.zero_le _
theorem rcvR_len (ss : Int) (bl : List Bk) : (rcvR ss bl).1.bd.length ≤ 24 + 24 * bl.length := by
  unfold rcvR
  split
  · dsimp only; rw [List.length_append, flat4_len, bkLs_len]; simp
  · exact Nat.zero_le _
theorem putCh_len (xs : List Ck) : (putCh xs).1.bd.length ≤ 300 * xs.length := by
  unfold putCh
  split
  · exact Nat.zero_le _
  · rename_i ha
    split
    · exact Nat.zero_le _
    · dsimp only
      rw [chunksL_eq]
      exact (chBs_len xs fun x hx => by
        have : ¬ 255 < x.nm.size := fun hc => ha (List.any_eq_true.2 ⟨x, hx, decide_eq_true hc⟩)
        omega).2
theorem putBy_len (x : By') : (putBy x).1.bd.length ≤ 4 * x.so.length + x.re.size + 4 := by
  unfold putBy
  split
  · exact Nat.zero_le _
  · exact (byeB_len x).2
end Go.Proofs.Ytohlaabclifbfaa.X
/-
  What a reader reads, in closed form: plain laws, no program.
-/
namespace Go.Proofs.Ytohlaabclifbfaa.X
open Go Go.RowKit
set_option linter.unusedVariables false
set_option linter.unusedSimpArgs false
/-- So many bytes are read, or it fails. -/
def Reads (m : Nat) (r r' : Rd) : Prop := if r.bad = false ∧ m ≤ r.l.length then r' = ⟨r.l.drop m, r.k + m, false⟩ else r'.bad = true
theorem Reads.take (r : Rd) (n : Nat) : Reads n r (r.take n).2 := by
  unfold Reads
  split
  · rename_i h
    rw [Rd.take_ok (by rw [h.1]; simp; omega)]
  · rename_i h
    rw [Rd.take_bad (by
      by_cases hb : r.bad = true
      · exact .inl hb
      · exact .inr (Nat.lt_of_not_le fun hl => h ⟨by simpa using hb, hl⟩))]
theorem Reads.ok {m : Nat} {r r' : Rd} (h : Reads m r r') (h1 : r.bad = false) (h2 : m ≤ r.l.length) : r' = ⟨r.l.drop m, r.k + m, false⟩ := by
  unfold Reads at h; rwa [if_pos ⟨h1, h2⟩] at h
theorem Reads.fail {m : Nat} {r r' : Rd} (h : Reads m r r') (h1 : ¬ (r.bad = false ∧ m ≤ r.l.length)) : r'.bad = true := by
  unfold Reads at h; rwa [if_neg h1] at h
theorem Reads.comp {m n : Nat} {r r1 r2 : Rd} (h1 : Reads m r r1) (h2 : Reads n r1 r2) : Reads (m + n) r r2 := by
  unfold Reads
  split
  · rename_i h
    have e1 := h1.ok h.1 (by omega)
    subst e1
    have e2 := h2.ok rfl (by dsimp only; rw [List.length_drop]; omega)
    rw [e2]
    dsimp only
    rw [List.drop_drop, Nat.add_assoc]
  · rename_i h
    by_cases h0 : r.bad = false ∧ m ≤ r.l.length
    · have e1 := h1.ok h0.1 h0.2
      subst e1
      exact h2.fail fun hh => h ⟨h0.1, by have := hh.2; dsimp only at this; rw [List.length_drop] at this; omega⟩
    · have e1 := h1.fail h0
      exact h2.fail fun hh => by rw [e1] at hh; cases hh.1
theorem Reads.zero (r : Rd) : Reads 0 r r := by
  unfold Reads
  split
  · rename_i h
    cases r
    simp only at h
    simp [h.1]
  · rename_i h
    have : ¬ r.bad = false := fun hb => h ⟨hb, Nat.zero_le _⟩
    simpa using this
def at4 (l : List Int) (i : Nat) : Int := vl ((l.drop i).take 4)
def tot (t : Int) : Int := if 8388608 ≤ t then t - 16777216 else t
def bkAt (l : List Int) : Bk := ⟨at4 l 0, l.getD 4 0, tot (vl ((l.drop 5).take 3)), at4 l 8, at4 l 12, at4 l 16, at4 l 20⟩
def bksAt : Nat → List Int → List Bk
  | 0, _ => []
  | n + 1, l => bkAt l :: bksAt n (l.drop 24)
theorem bksAt_len : ∀ (n : Nat) (l : List Int), (bksAt n l).length = n
  | 0, _ => rfl
  | n + 1, l => by rw [bksAt, List.length_cons, bksAt_len n]
theorem four {l : List Int} (h : 4 ≤ l.length) : ∃ a b c d t, l = a :: b :: c :: d :: t := by
  rcases l with _ | ⟨a, _ | ⟨b, _ | ⟨c, _ | ⟨d, t⟩⟩⟩⟩ <;> simp at h
  exact ⟨a, b, c, d, t, rfl⟩
theorem word2 {l : List Int} (h : 8 ≤ l.length) (hb : ∀ x, x ∈ l → By x) : at4 l 4 / 16777216 = l.getD 4 0 ∧ to24 (at4 l 4) = tot (vl ((l.drop 5).take 3)) := by
  obtain ⟨a, b, c, d, t, rfl⟩ := four (l := l) (by omega)
  simp only [List.length_cons] at h
  obtain ⟨e, f, g, i, u, rfl⟩ := four (l := t) (by omega)
  have h1 := hb e (by simp); have h2 := hb f (by simp); have h3 := hb g (by simp); have h4 := hb i (by simp)
  unfold By at h1 h2 h3 h4
  have e1 : at4 (a :: b :: c :: d :: e :: f :: g :: i :: u) 4 = ((e * 256 + f) * 256 + g) * 256 + i := by
    show vl [e, f, g, i] = _
    simp only [vl, List.foldl]; omega
  have e2 : vl (((a :: b :: c :: d :: e :: f :: g :: i :: u).drop 5).take 3) = (f * 256 + g) * 256 + i := by
    show vl [f, g, i] = _
    simp only [vl, List.foldl]; omega
  rw [e1, e2]
  refine ⟨?_, ?_⟩
  · show _ = e; omega
  · unfold to24 tot
    rw [wrap32, IntKind.wrap_i32]
    have : (((e * 256 + f) * 256 + g) * 256 + i) * 256 % 4294967296 = ((f * 256 + g) * 256 + i) * 256 := by omega
    rw [this]
    split <;> omega
theorem take4 {l : List Int} {k : Nat} (h : 4 ≤ l.length) : (⟨l, k, false⟩ : Rd).take 4 = (l.take 4, ⟨l.drop 4, k + 4, false⟩) := Rd.take_ok (by simpa using h)
theorem blk_reads (r : Rd) : Reads 24 r r.blk.2 := ((((((Reads.take r 4).comp (Reads.take _ 4)).comp (Reads.take _ 4)).comp (Reads.take _ 4)).comp (Reads.take _ 4)).comp (Reads.take _ 4))
theorem blk_val {l : List Int} {k : Nat} (h : 24 ≤ l.length) (hb : ∀ x, x ∈ l → By x) : (⟨l, k, false⟩ : Rd).blk.1 = bkAt l := by
  obtain ⟨w1, w2⟩ := word2 (l := l) (by omega) hb
  unfold Rd.blk bkAt
  rw [← w1, ← w2]
  rw [take4 (by omega)]
  dsimp only
  rw [take4 (by rw [List.length_drop]; omega)]
  dsimp only
  rw [take4 (by simp only [List.length_drop]; omega)]
  dsimp only
  rw [take4 (by simp only [List.length_drop]; omega)]
  dsimp only
  rw [take4 (by simp only [List.length_drop]; omega)]
  dsimp only
  rw [take4 (by simp only [List.length_drop]; omega)]
  simp only [List.drop_drop, at4, List.drop_zero]
theorem blks_reads : ∀ (n : Nat) (r : Rd), Reads (24 * n) r (Rd.blks n r).2
  | 0, r => Reads.zero r
  | n + 1, r => by
    have := (blk_reads r).comp (blks_reads n r.blk.2)
    rw [show 24 + 24 * n = 24 * (n + 1) from by omega] at this
    exact this
theorem blks_val : ∀ (n : Nat) (l : List Int) (k : Nat), 24 * n ≤ l.length → (∀ x, x ∈ l → By x) → (Rd.blks n ⟨l, k, false⟩).1 = bksAt n l
  | 0, _, _, _, _ => rfl
  | n + 1, l, k, h, hb => by
    have h2 : (⟨l, k, false⟩ : Rd).blk.2 = ⟨l.drop 24, k + 24, false⟩ := (blk_reads _).ok rfl (by show 24 ≤ l.length; omega)
    rw [Rd.blks, bksAt, blk_val (by omega) hb, h2, blks_val n _ _ (by rw [List.length_drop]; omega) fun x hx => hb x (List.mem_of_mem_drop hx)]
theorem told_kind {q : Pc} {r : Rd} {k : Int} {w : Bool} (h : q.kd ≠ k) : toldE q r k w = 62 := by unfold toldE; rw [if_pos h]
theorem told_bad {q : Pc} {r : Rd} {k : Int} {w : Bool} (h : q.kd = k) (hb : r.bad = true) : toldE q r k w = 63 := by unfold toldE; rw [if_neg (fun hc => hc h), if_pos (Or.inl hb)]
theorem told_left {q : Pc} {r : Rd} {k : Int} (h : q.kd = k) (hl : 0 < r.l.length) : toldE q r k true = 63 := by unfold toldE; rw [if_neg (fun hc => hc h), if_pos (Or.inr ⟨rfl, hl⟩)]
theorem told_ok {q : Pc} {r : Rd} {k : Int} {w : Bool} (h : q.kd = k) (hb : r.bad = false) (hl : w = true → r.l.length = 0) : toldE q r k w = 0 := by
  unfold toldE
  rw [if_neg (fun hc => hc h), if_neg]
  rintro (h1 | ⟨h1, h2⟩)
  · rw [hb] at h1; cases h1
  · have := hl h1; omega
theorem n63 : ¬ ((63 : Int) = 0) := by decide
theorem n62 : ¬ ((62 : Int) = 0) := by decide
/-- What a sender's packet tells, as the reference reads it. -/
theorem ofSn_eq {q : Pc} (hg : q.Rg) {n : Nat} (hn : q.ct = n) : ofSn q = if q.kd ≠ 200 then (.zero, 62) else if q.bd.length < 24 + 24 * n then (.zero, 63) else (⟨at4 q.bd 0, at4 q.bd 4 * 4294967296 + at4 q.bd 8, at4 q.bd 12, at4 q.bd 16, at4 q.bd 20, bksAt n (q.bd.drop 24)⟩, 0) := by
  unfold ofSn
  rw [hn, show (n : Int).toNat = n from rfl]
  have hR : Reads (24 + 24 * n) (rd0 q) ((rd0 q).sn n).2 := (((((((Reads.take (rd0 q) 4).comp (Reads.take _ 4)).comp (Reads.take _ 4)).comp (Reads.take _ 4)).comp (Reads.take _ 4)).comp (Reads.take _ 4)).comp (blks_reads n _))
  by_cases hk : q.kd = 200
  · rw [if_neg (show ¬ (q.kd ≠ 200) from fun h => h hk)]
    by_cases hl : q.bd.length < 24 + 24 * n
    · rw [if_pos hl, told_bad hk (hR.fail (fun h => by have := h.2; simp only [rd0] at this; omega)), if_neg n63]
    · rw [if_neg hl]
      have e := hR.ok rfl (by show _ ≤ q.bd.length; omega)
      rw [told_ok hk (by rw [e]) (fun h => by cases h), if_pos rfl]
      unfold Rd.sn rd0
      rw [take4 (by omega)]
      dsimp only
      rw [take4 (by rw [List.length_drop]; omega)]
      dsimp only
      rw [take4 (by simp only [List.length_drop]; omega)]
      dsimp only
      rw [take4 (by simp only [List.length_drop]; omega)]
      dsimp only
      rw [take4 (by simp only [List.length_drop]; omega)]
      dsimp only
      rw [take4 (by simp only [List.length_drop]; omega)]
      dsimp only
      rw [blks_val n _ _ (by simp only [List.length_drop]; omega) fun x hx => by
        simp only [List.drop_drop] at hx; exact hg.bd x (List.mem_of_mem_drop hx)]
      simp only [List.drop_drop, at4, List.drop_zero]
  · rw [if_pos hk, told_kind hk, if_neg n62]
theorem ofRc_eq {q : Pc} (hg : q.Rg) {n : Nat} (hn : q.ct = n) : ofRc q = if q.kd ≠ 201 then ((0, []), 62) else if q.bd.length < 4 + 24 * n then ((0, []), 63) else ((at4 q.bd 0, bksAt n (q.bd.drop 4)), 0) := by
  unfold ofRc
  rw [hn, show (n : Int).toNat = n from rfl]
  have hR : Reads (4 + 24 * n) (rd0 q) ((rd0 q).rc n).2 := (Reads.take (rd0 q) 4).comp (blks_reads n _)
  by_cases hk : q.kd = 201
  · rw [if_neg (show ¬ (q.kd ≠ 201) from fun h => h hk)]
    by_cases hl : q.bd.length < 4 + 24 * n
    · rw [if_pos hl, told_bad hk (hR.fail (fun h => by have := h.2; simp only [rd0] at this; omega)), if_neg n63]
    · rw [if_neg hl]
      have e := hR.ok rfl (by show _ ≤ q.bd.length; omega)
      rw [told_ok hk (by rw [e]) (fun h => by cases h), if_pos rfl]
      unfold Rd.rc rd0
      rw [take4 (by omega)]
      dsimp only
      rw [blks_val n _ _ (by simp only [List.length_drop]; omega) fun x hx => hg.bd x (List.mem_of_mem_drop hx)]
      simp only [at4, List.drop_zero]
  · rw [if_pos hk, told_kind hk, if_neg n62]
/-! ### who goes -/
def longsAt : Nat → List Int → List Int
  | 0, _ => []
  | n + 1, l => at4 l 0 :: longsAt n (l.drop 4)
theorem longsAt_len : ∀ (n : Nat) (l : List Int), (longsAt n l).length = n
  | 0, _ => rfl
  | n + 1, l => by rw [longsAt, List.length_cons, longsAt_len n]
theorem lgs_reads : ∀ (n : Nat) (r : Rd), Reads (4 * n) r (Rd.lgs n r).2
  | 0, r => Reads.zero r
  | n + 1, r => by
    have := (Reads.take r 4).comp (lgs_reads n (r.take 4).2)
    rw [show 4 + 4 * n = 4 * (n + 1) from by omega] at this
    exact this
theorem lgs_val : ∀ (n : Nat) (l : List Int) (k : Nat), 4 * n ≤ l.length → (Rd.lgs n ⟨l, k, false⟩).1 = longsAt n l
  | 0, _, _, _ => rfl
  | n + 1, l, k, h => by
    rw [Rd.lgs, longsAt, take4 (by omega)]
    dsimp only
    rw [lgs_val n _ _ (by rw [List.length_drop]; omega)]
    simp only [at4, List.drop_zero]
def wd (n : Nat) : Nat := (n + 3) / 4 * 4
theorem wd_eq (n : Nat) : wd n = n + (4 - n % 4) % 4 := by unfold wd; omega
theorem text_bad {r : Rd} (h : r.bad = true) : r.text.2.bad = true := by
  have h1 : (r.take 1).2.bad = true := (Reads.take r 1).fail fun hh => by rw [h] at hh; cases hh.1
  exact (Reads.take _ _).fail fun hh => by rw [h1] at hh; cases hh.1
theorem fill_bad {r : Rd} (h : r.bad = true) : r.fill.bad = true := (Reads.take r _).fail fun hh => by rw [h] at hh; cases hh.1
/-- A text that is read at a place. -/
theorem text_at (l : List Int) (k : Nat) (hb : ∀ x, x ∈ l → By x) : if 0 < l.length ∧ 1 + (l.getD 0 0).toNat ≤ l.length then Rd.text ⟨l, k, false⟩ = ((l.drop 1).take (l.getD 0 0).toNat, ⟨l.drop (1 + (l.getD 0 0).toNat), k + 1 + (l.getD 0 0).toNat, false⟩) else (Rd.text ⟨l, k, false⟩).2.bad = true := by
  cases l with
  | nil => rw [if_neg (by simp)]; rfl
  | cons a t =>
    have e := take_app [a] t k 1 rfl
    rw [List.singleton_append] at e
    unfold Rd.text
    rw [e]
    dsimp only
    rw [show ([a].getD 0 0) = a from rfl, show ((a :: t).getD 0 0) = a from rfl]
    split
    · rename_i h
      simp only [List.length_cons] at h
      rw [Rd.take_ok (by simp; omega)]
      dsimp only
      rw [List.drop_one, List.tail_cons, show (a :: t).drop (1 + a.toNat) = t.drop a.toNat from by rw [Nat.add_comm]; rfl]
    · rename_i h
      simp only [List.length_cons] at h
      rw [Rd.take_bad (.inr (by dsimp only; omega))]
theorem fill_at (l : List Int) (k : Nat) : if wd k ≤ k + l.length then Rd.fill ⟨l, k, false⟩ = ⟨l.drop (wd k - k), wd k, false⟩ else (Rd.fill ⟨l, k, false⟩).bad = true := by
  have hw := wd_eq k
  unfold Rd.fill
  dsimp only
  split
  · rename_i h
    rw [Rd.take_ok (by simp; omega)]
    dsimp only
    rw [show (4 - k % 4) % 4 = wd k - k from by omega, show k + (wd k - k) = wd k from by omega]
  · rename_i h
    rw [Rd.take_bad (.inr (by dsimp only; omega))]
theorem ofBy_eq {q : Pc} (hg : q.Rg) {n : Nat} (hn : q.ct = n) : ofBy q = if q.kd ≠ 203 then (⟨[], ⟨#[]⟩⟩, 62) else if q.bd.length < 4 * n then (⟨[], ⟨#[]⟩⟩, 63) else if q.bd.length = 4 * n then (⟨longsAt n q.bd, ⟨#[]⟩⟩, 0)
    else if q.bd.length < 4 * n + 1 + (q.bd.getD (4 * n) 0).toNat ∨ wd (4 * n + 1 + (q.bd.getD (4 * n) 0).toNat) ≠ q.bd.length then (⟨[], ⟨#[]⟩⟩, 63) else (⟨longsAt n q.bd, strOfNums ((q.bd.drop (4 * n + 1)).take (q.bd.getD (4 * n) 0).toNat)⟩, 0) := by
  unfold ofBy
  rw [hn, show (n : Int).toNat = n from rfl]
  have hR : Reads (4 * n) (rd0 q) (Rd.lgs n (rd0 q)).2 := lgs_reads n _
  by_cases hk : q.kd = 203
  · rw [if_neg (show ¬ (q.kd ≠ 203) from fun h => h hk)]
    unfold Rd.bye
    by_cases hl : q.bd.length < 4 * n
    · have hbad := hR.fail (fun h => by have := h.2; simp only [rd0] at this; omega)
      rw [if_pos hl]
      by_cases h0 : 0 < (Rd.lgs n (rd0 q)).2.l.length
      · rw [if_pos h0]
        dsimp only
        rw [told_bad hk (fill_bad (text_bad hbad)), if_neg n63]
      · rw [if_neg h0]
        dsimp only
        rw [told_bad hk hbad, if_neg n63]
    · rw [if_neg hl]
      have e := hR.ok rfl (by show _ ≤ q.bd.length; omega)
      have ev : (Rd.lgs n (rd0 q)).1 = longsAt n q.bd := lgs_val n _ _ (by omega)
      rw [e, ev]
      dsimp only
      rw [show (rd0 q).l = q.bd from rfl, show (rd0 q).k = 0 from rfl, List.length_drop, Nat.zero_add]
      by_cases h0 : q.bd.length = 4 * n
      · rw [if_neg (show ¬ 0 < q.bd.length - 4 * n by omega), if_pos h0]
        dsimp only
        rw [told_ok hk rfl (fun _ => by dsimp only; rw [List.length_drop]; omega), if_pos rfl]
      · rw [if_pos (show 0 < q.bd.length - 4 * n by omega), if_neg h0]
        dsimp only
        have hta := text_at (q.bd.drop (4 * n)) (4 * n) fun x hx => hg.bd x (List.mem_of_mem_drop hx)
        have hgd : (q.bd.drop (4 * n)).getD 0 0 = q.bd.getD (4 * n) 0 := by
          rw [List.getD_eq_getElem?_getD, List.getElem?_drop, Nat.add_zero, ← List.getD_eq_getElem?_getD]
        rw [hgd, List.length_drop] at hta
        obtain ⟨z, hz⟩ : ∃ z, (q.bd.getD (4 * n) 0).toNat = z := ⟨_, rfl⟩
        rw [hz] at hta ⊢
        by_cases h1 : q.bd.length < 4 * n + 1 + z
        · rw [if_neg (show ¬ (0 < q.bd.length - 4 * n ∧ 1 + z ≤ q.bd.length - 4 * n) by omega)] at hta
          rw [told_bad hk (fill_bad hta), if_neg n63, if_pos (Or.inl h1)]
        · rw [if_pos (show 0 < q.bd.length - 4 * n ∧ 1 + z ≤ q.bd.length - 4 * n by omega)] at hta
          rw [hta]
          dsimp only
          have hfa := fill_at ((q.bd.drop (4 * n)).drop (1 + z)) (4 * n + 1 + z)
          rw [List.drop_drop, List.length_drop] at hfa
          rw [List.drop_drop, List.drop_drop]
          have hw := wd_eq (4 * n + 1 + z)
          by_cases h2 : wd (4 * n + 1 + z) ≤ q.bd.length
          · rw [if_pos (by omega)] at hfa
            rw [hfa]
            by_cases h3 : wd (4 * n + 1 + z) = q.bd.length
            · rw [told_ok hk rfl (fun _ => by dsimp only; rw [List.length_drop, List.length_drop]; omega), if_pos rfl, if_neg (by omega)]
            · rw [told_left hk (by dsimp only; rw [List.length_drop, List.length_drop]; omega), if_neg n63, if_pos (Or.inr h3)]
          · rw [if_neg (by omega)] at hfa
            rw [told_bad hk hfa, if_neg n63, if_pos (Or.inr (by omega))]
  · rw [if_pos hk, told_kind hk, if_neg n62]
end Go.Proofs.Ytohlaabclifbfaa.X
