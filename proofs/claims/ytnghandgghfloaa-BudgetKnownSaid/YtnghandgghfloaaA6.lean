/-
  The reference's plan of a rate: walks of my own.
-/
import Derived.Test.YtnghandgghfloaaA5
namespace Go.Proofs.Ytnghandgghfloaa.X
open Go Go.RowKit
set_option linter.unusedVariables false
set_option linter.unusedSimpArgs false
theorem sub_flat {α : Type} (f : α → List Blk) : ∀ (ws : List α) (w : α), w ∈ ws → (f w).Sublist (ws.flatMap f)
  | a :: r, w, h => by
    rw [List.flatMap_cons]
    rcases List.mem_cons.1 h with rfl | h
    · exact List.sublist_append_left _ _
    · exact (sub_flat f r w h).trans (List.sublist_append_right _ _)
/-- The first plan of a row that a rate pays. -/
def pick (ct cm : List Int) (rate : Int) (l : List (Int × List Bool)) : Option (Int × List Bool) := l.find? fun z => decide (costC ct cm z.1 z.2 ≤ rate)
theorem xf_ralloc_bad {W : World} {L : List Blk} (rate : Int) (p q : Option Addr) (n c m d : Nat) (ct cm : List Int) (hn : ct.length = n) (hm : cm.length = m) (hr : Rs W L p (ints .u64 ct)) (hb : n ≤ 1000) (hb2 : m ≤ 1000) (hR : ¬ Rgt ct cm) : XF Try.prog W 10 #[.int .u64 rate, .agg #[.slice p n c, .slice q m d]] L (fun v L' => v = .tuple #[.agg #[.int .i64 0, .slice none 0 0], .int .i64 2] ∧ L' = L) := by
  refine xf_enter (args := [_, _]) Try.func10 rfl Try.ntmps10 rfl ?_
  focus
    refine xc_seq ?_
    refine xc_region ?_
    refine xo_ef rfl (ef_box rfl fun r3 => ?_)
    refine xo_ef rfl (ef_alloc fun r4 => ?_)
    refine xo_rd (rd_assign rfl) rfl ?_
    refine xo_nil ?_
    refine xq_seq ?_
    refine xc_seq ?_
    refine xc_seq ?_
    refine xc_region ?_
    refine xo_rd (rd_loadB rfl Kn.o1 (by rfl)) rfl ?_
  refine xo_ef rfl (ef_call rfl (XF.mono (xf_rright p q n c m d ct cm hn hm hr.skip.skip (by omega) (by omega)) ?_))
  rintro v L' ⟨⟨b, rfl, hb⟩, rfl⟩
  obtain rfl : b = false := by cases b; rfl; exact absurd (hb.1 rfl) hR
  focus
    refine xo_rd (rd_not rfl) rfl ?_
    refine xo_nil ?_
    refine xq_seq ?_
    refine xc_condt rfl ?_
    refine xc_seq ?_
    refine xc_region ?_
    refine xo_rd (rd_build rfl rfl rfl) rfl ?_
    refine xo_ef rfl (ef_storeB [] _ rfl rfl (by first | rfl | assumption) rfl rfl rfl ?_)
    refine xo_rd (rd_assign rfl) rfl ?_
    refine xo_nil ?_
    refine xq_seq ?_
    refine xc_ret ?_
    refine xq_then_ret ?_
  exact xq_retB2 (.inl rfl) Try.results10 rfl rfl Kn.o0 rfl ((List.sublist_cons_self _ _).trans (List.sublist_cons_self _ _)) ⟨rfl, rfl⟩
set_option maxHeartbeats 4000000 in
theorem xf_ralloc {W : World} {L : List Blk} (rate : Int) (p q : Option Addr) (n c m d : Nat) (ct cm : List Int) (hn : ct.length = n) (hm : cm.length = m) (hr : Rs W L p (ints .u64 ct)) (hq : Rs W L q (ints .u64 cm)) (hU : ∀ x, x ∈ ct → U x) (hU2 : ∀ x, x ∈ cm → U x) (hb : n ≤ 1000) (hb2 : m ≤ 1000) (hR : Rgt ct cm) (z : Int × List Bool) (hz : pick ct cm rate (plansOf n m) = some z) : XF Try.prog W 10 #[.int .u64 rate, .agg #[.slice p n c, .slice q m d]] L (fun v L' => ∃ w : Pw, v = .tuple #[.agg w.enc.toArray, .int .i64 0] ∧ w.Is ∧ w.pl = z ∧ L' = w.l ++ L) := by
  refine xf_enter (args := [_, _]) Try.func10 rfl Try.ntmps10 rfl ?_
  focus
    refine xc_seq ?_
    refine xc_region ?_
    refine xo_ef rfl (ef_box rfl fun r3 => ?_)
    refine xo_ef rfl (ef_alloc fun r4 => ?_)
    refine xo_rd (rd_assign rfl) rfl ?_
    refine xo_nil ?_
    refine xq_seq ?_
    refine xc_seq ?_
    refine xc_seq ?_
    refine xc_region ?_
    refine xo_rd (rd_loadB rfl Kn.o1 (by rfl)) rfl ?_
  refine xo_ef rfl (ef_call rfl (XF.mono (xf_rright p q n c m d ct cm hn hm hr.skip.skip (by omega) (by omega)) ?_))
  rintro v L' ⟨⟨b, rfl, hbr⟩, rfl⟩
  obtain rfl : b = true := hbr.2 hR
  focus
    refine xo_rd (rd_not rfl) rfl ?_
    refine xo_nil ?_
    refine xq_seq ?_
    refine xc_condf rfl ?_
    refine xc_skip ?_
    refine xq_seq ?_
    refine xc_seq ?_
    refine xc_region ?_
    refine xo_rd (rd_loadB rfl Kn.o1 (by rfl)) rfl ?_
  refine xo_ef rfl (ef_call rfl (XF.mono (xf_rplans p q n c m d ct cm hn hm hr.skip.skip (by omega) (by omega) hR) ?_))
  rintro v L' ⟨s, k, lo, ws, rfl, hO, his, hpl, rfl⟩
  refine xo_permT lo (R' := [_, _] ++ (ws.flatMap Pw.l ++ L)) (seg_perm [_, _] (ws.flatMap Pw.l) L).symm ?_
  refine xo_seg [_, _] lo (ws.flatMap Pw.l ++ L) ?_
  have hwl : ws.length ≤ 1000 := by
    have h1 := congrArg List.length hpl
    have h4 := hR.1
    have h5 := hR.2.1
    unfold plansOf at h1
    split at h1 <;> simp [plan0, planA, planB] at h1 <;> omega
  focus
    refine xo_rd (rd_assign rfl) rfl ?_
    refine xo_nil ?_
    refine xq_seq ?_
    refine xc_seq ?_
    refine xc_seq ?_
    refine xc_region ?_
    refine xo_rd (rd_assign rfl) rfl ?_
    refine xo_nil ?_
    refine xq_seq ?_
    refine xc_block ?_
  refine xc_loopI (ι := Nat) (fun i => i ≤ ws.length ∧ pick ct cm rate ((ws.drop i).map Pw.pl) = some z) (fun i => ws.length - i) (fun _ => (r4, .cells #[.int .i64 0, .slice none 0 0] 32 (0, 0)) :: (r3, .cells #[.slice p n c, .slice q m d] 28 (0, 0)) :: (lo ++ (ws.flatMap Pw.l ++ L))) (fun i => [(0, .int .u64 rate), (3, .pointer (some ⟨r3, 0, none⟩)), (4, .pointer (some ⟨r4, 0, none⟩)), (6, .slice s ws.length k), (7, .int .i64 i)]) 0 ⟨Nat.zero_le _, by rw [List.drop_zero, hpl]; exact hz⟩ rfl (by repeat (first | exact keep_nil | refine keep_cons rfl ?_)) ?_
  rintro i ⟨hi, hpk⟩
  have hiw : i < ws.length := by
    by_cases h : i < ws.length
    · exact h
    · rw [List.drop_eq_nil_of_le (by omega)] at hpk; cases hpk
  have hd : ws.drop i = ws[i] :: ws.drop (i + 1) := List.drop_eq_getElem_cons hiw
  have hmem : ws[i] ∈ ws := List.getElem_mem _
  have hwi := his ws[i] hmem
  have hsub := sub_flat Pw.l ws ws[i] hmem
  have hp2 : pick ct cm rate ((ws.drop i).map Pw.pl) = if costC ct cm ws[i].cap ws[i].on ≤ rate then some ws[i].pl else pick ct cm rate ((ws.drop (i + 1)).map Pw.pl) := by
    unfold pick
    rw [hd, List.map_cons, List.find?_cons]
    by_cases h : costC ct cm ws[i].cap ws[i].on ≤ rate
    · rw [if_pos h, show decide (costC ct cm ws[i].pl.1 ws[i].pl.2 ≤ rate) = true from decide_eq_true h]
    · rw [if_neg h, show decide (costC ct cm ws[i].pl.1 ws[i].pl.2 ≤ rate) = false from decide_eq_false h]
  rw [hpk] at hp2
  have hon : ws[i].on.length ≤ 1000 := by
    have h1 : ws[i].pl ∈ plansOf n m := by rw [← hpl]; exact List.mem_map_of_mem hmem
    have h5 := hR.2.1
    unfold plansOf at h1
    split at h1
    · obtain ⟨k, _, hk⟩ := List.mem_map.1 h1
      have := congrArg (fun z => z.2.length) hk
      simp [fl_len, Pw.pl] at this; omega
    · rcases List.mem_append.1 h1 with h1 | h1
      · rcases List.mem_append.1 h1 with h1 | h1
        · obtain ⟨k, _, hk⟩ := List.mem_map.1 h1
          have := congrArg (fun z => z.2.length) hk
          simp [fl_len, Pw.pl] at this; omega
        · obtain ⟨k, _, hk⟩ := List.mem_map.1 h1
          have := congrArg (fun z => z.2.length) hk
          simp [fl_len, Pw.pl] at this; omega
      · have := congrArg (fun z => z.2.length) (List.mem_singleton.1 h1)
        simp [fl_len, Pw.pl] at this; omega
  obtain ⟨b, o, rfl, hc⟩ := (hO.rs (W := W) (L := (r4, .cells #[.int .i64 0, .slice none 0 0] 32 (0, 0)) :: (r3, .cells #[.slice p n c, .slice q m d] 28 (0, 0)) :: (lo ++ (ws.flatMap Pw.l ++ L))) (by intro z hz; simp [hz])).row Pw.len (by decide) hiw
  generalize ws[i] = w at *
  obtain ⟨sw, kw, hv, hS⟩ := hwi.opn
  obtain ⟨wc, won, wv, wl⟩ := w
  dsimp only at hv hS hp2 hsub hon
  subst hv
  have hrs : Rs W ((r4, .cells #[.int .i64 0, .slice none 0 0] 32 (0, 0)) :: (r3, .cells #[.slice p n c, .slice q m d] 28 (0, 0)) :: (lo ++ (ws.flatMap Pw.l ++ L))) sw (bls won) := hS.rs fun z hz => by have := hsub.subset hz; simp [this]
  have hcost := xf_rcost (W := W) (L := (r4, .cells #[.int .i64 0, .slice none 0 0] 32 (0, 0)) :: (r3, .cells #[.slice p n c, .slice q m d] 28 (0, 0)) :: (lo ++ (ws.flatMap Pw.l ++ L))) p q sw n c m d won.length kw ct cm wc won hn hm rfl (hr.mono (by intro z hz; simp [hz])) (hq.mono (by intro z hz; simp [hz])) hrs hU hU2 hb hb2 (by omega)
  focus
    refine xc_seq ?_
    refine xc_seq ?_
    refine xc_region ?_
    refine xo_rd (rd_move rfl) rfl ?_
    refine xo_rd (rd_move rfl) rfl ?_
    refine xo_rd (rd_len rfl) rfl ?_
    refine xo_rd (rd_lss rfl rfl) rfl ?_
    refine xo_nil ?_
    refine xq_seq ?_
    refine xc_dec rfl (fun hw1 => ?_) (fun hw1 => (by exfalso; omega))
    refine xc_skip ?_
    refine xq_seq ?_
    refine xc_seq ?_
    refine xc_block ?_
    refine xc_seq ?_
    refine xc_drawML [0, 0, 0, 6, 8, 17, 0, 96] [0, 0, 0, 6, 8, 17, 0, 96] (by kernel_rfl) (by kernel_rfl) (by kernel_rfl) ?_
    refine xm_take 0 (m' := 1) rfl (by kernel_rfl) (by first | exact Sb.refl | exact Sb.nil | (repeat (first | exact Sb.nil | exact Sb.refl | exact Sb.app0 | apply Sb.keep | apply Sb.keepApp | apply Sb.cons | apply Sb.app))) (rd_loadB rfl Kn.o1 (by rfl)) rfl (by kernel_rfl) ?_
    refine xm_take 1 (m' := 3) rfl (by kernel_rfl) (by first | exact Sb.refl | exact Sb.nil | (repeat (first | exact Sb.nil | exact Sb.refl | exact Sb.app0 | apply Sb.keep | apply Sb.keepApp | apply Sb.cons | apply Sb.app))) (rd_move rfl) rfl (by kernel_rfl) ?_
    refine xm_take 2 (m' := 7) rfl (by kernel_rfl) (by first | exact Sb.refl | exact Sb.nil | (repeat (first | exact Sb.nil | exact Sb.refl | exact Sb.app0 | apply Sb.keep | apply Sb.keepApp | apply Sb.cons | apply Sb.app))) (rd_move rfl) rfl (by kernel_rfl) ?_
    refine xm_take 3 (m' := 15) rfl (by kernel_rfl) (by first | exact Sb.refl | exact Sb.nil | (repeat (first | exact Sb.nil | exact Sb.refl | exact Sb.app0 | apply Sb.keep | apply Sb.keepApp | apply Sb.cons | apply Sb.app))) (rd_indexAddr rfl rfl (by omega) (by omega)) rfl (by kernel_rfl) ?_
    refine xm_take 4 (m' := 31) rfl (by kernel_rfl) (by first | exact Sb.refl | exact Sb.nil | (repeat (first | exact Sb.nil | exact Sb.refl | exact Sb.app0 | apply Sb.keep | apply Sb.keepApp | apply Sb.cons | apply Sb.app))) (rd_loadA (vs := [.int .i64 wc, .slice sw won.length kw]) rfl rfl hc) rfl (by kernel_rfl) ?_
    refine xm_take 6 (m' := 95) rfl (by kernel_rfl) (by first | exact Sb.refl | exact Sb.nil | (repeat (first | exact Sb.nil | exact Sb.refl | exact Sb.app0 | apply Sb.keep | apply Sb.keepApp | apply Sb.cons | apply Sb.app))) (rd_move rfl) rfl (by kernel_rfl) ?_
    refine xm_one 5 (m' := 127) rfl (by kernel_rfl) rfl (by kernel_rfl) (ef_call rfl (XF.mono (hcost) ?_))
    rintro v L' ⟨rfl, rfl⟩
    refine ⟨(by first | exact Sb.refl | exact Sb.nil | (repeat (first | exact Sb.nil | exact Sb.refl | exact Sb.app0 | apply Sb.keep | apply Sb.keepApp | apply Sb.cons | apply Sb.app))), ?_⟩
    refine xm_take 7 (m' := 255) rfl (by kernel_rfl) (by first | exact Sb.refl | exact Sb.nil | (repeat (first | exact Sb.nil | exact Sb.refl | exact Sb.app0 | apply Sb.keep | apply Sb.keepApp | apply Sb.cons | apply Sb.app))) (rd_leq rfl rfl) rfl (by kernel_rfl) ?_
    refine xm_done (by kernel_rfl) ?_
    refine xq_seq ?_
    refine xc_dec rfl (fun hw2 => ?_) (fun hw2 => ?_)
    refine xc_seq ?_
    refine xc_region ?_
    refine xo_rd (rd_move rfl) rfl ?_
    refine xo_rd (rd_move rfl) rfl ?_
    refine xo_rd (rd_indexAddr rfl rfl (by omega) (by omega)) rfl ?_
    refine xo_rd (rd_loadA (vs := [.int .i64 wc, .slice sw won.length kw]) rfl rfl hc) rfl ?_
    refine xo_ef rfl (ef_storeB [] _ rfl rfl (by first | rfl | assumption) rfl rfl rfl ?_)
    refine xo_rd (rd_assign rfl) rfl ?_
    refine xo_nil ?_
    refine xq_seq ?_
    refine xc_ret ?_
    refine xq_block_ret ?_
    refine xq_then_ret ?_
    refine xq_then_ret ?_
    refine xq_block_ret ?_
    refine xq_then_ret ?_
    rotate_left
    refine xc_skip ?_
    refine xq_block ?_
    refine xq_seq ?_
    refine xc_region ?_
    refine xo_rd (rd_move rfl) rfl ?_
    refine xo_rd (rd_addn rfl rfl (by omega) (by omega)) rfl ?_
    refine xo_rd (rd_assign rfl) rfl ?_
    refine xo_nil ?_
    rotate_left
  · rw [if_pos hw2] at hp2
    exact xq_retB2 (.inl rfl) Try.results10 rfl rfl Kn.o0 rfl ((hsub.append (List.Sublist.refl L)).trans ((List.sublist_append_right _ _).trans ((List.sublist_cons_self _ _).trans (List.sublist_cons_self _ _)))) ⟨⟨wc, won, .slice sw won.length kw, wl⟩, rfl, hwi, (Option.some.inj hp2).symm, rfl⟩
  · rw [if_neg hw2] at hp2
    exact xq_roundI (i + 1) ⟨by omega, hp2.symm⟩ (by omega) rfl (by repeat (first | exact keep_nil | refine keep_cons rfl ?_))
end Go.Proofs.Ytnghandgghfloaa.X
