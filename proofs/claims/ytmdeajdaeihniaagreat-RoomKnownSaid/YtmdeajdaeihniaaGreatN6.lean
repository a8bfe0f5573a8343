/-
  Texts of my own, put together: walks and laws for this seat. No condition.
-/
import Derived.Test.YtmdeajdaeihniaaGreatN5
import Derived.Test.YtmdeajdaeihniaaGreatN4
/-
  Chapter 13: the reference's floor: who asks, who takes it away, and when it is silent: walks of my own.
-/
namespace Go.Proofs.YtmdeajdaeihniaaGreat.X
open Go Go.RowKit
set_option linter.unusedVariables false
set_option linter.unusedSimpArgs false
theorem find_ix {l : List (Int × Bool)} {w : Int} {i : Nat} (h : ixOf (l.map (·.1)) w = i) (hi : i < l.length) : l.find? (fun e => e.1 == w) = some l[i] := by
  unfold ixOf at h
  cases hf : (l.map (·.1)).findIdx? (· == w) with
  | none => rw [hf] at h; have h' : (-1 : Int) = i := h; omega
  | some k =>
    rw [hf] at h
    obtain rfl : k = i := by have h' : (k : Int) = i := h; omega
    obtain ⟨hk, h1, h2⟩ := List.findIdx?_eq_some_iff_getElem.1 hf
    rw [List.find?_eq_some_iff_getElem]
    refine ⟨by simpa using h1, k, hi, rfl, fun j hj => ?_⟩
    have := h2 j hj
    simpa using this
set_option maxHeartbeats 1600000 in
theorem xf_rRequest {W : World} {L : List Blk} (L0 : List Blk) (hs : ∀ z, z ∈ L0 → z ∈ L) (f : Rf) (hf : f.At W L0) (w now : Int) (hg : f.a.gs.length < 1000000) (hwl : f.a.wt.length < 1000000) : XF Tryz.prog W 73 #[.agg f.enc.toArray, .int .u32 w, .int .u64 now] L (fun v L' => ∃ y N, v = .tuple #[.agg (Rf.enc y).toArray, .int .i64 (reqE f.a w)] ∧ y.a = reqF f.a w now ∧ y.At W (N ++ L0) ∧ L' = N ++ L) := by
  have hfL : ∀ L', (∀ z, z ∈ L → z ∈ L') → f.At W L' := fun L' h => hf.mono fun z hz => h z (hs z hz)
  obtain ⟨k, hk⟩ : ∃ k, ixOf (f.a.ms.map (·.1)) w = k := ⟨_, rfl⟩
  obtain ⟨k2, hk2⟩ : ∃ k, ixOf f.a.wt w = k := ⟨_, rfl⟩
  have hfi : ∀ L', (∀ z, z ∈ L → z ∈ L') → XF Tryz.prog W 104 #[.agg f.enc.toArray, .int .u32 w] L' (fun v L'' => v = .int .i64 k ∧ L'' = L') := fun L' h => xf_find' f (hfL L' h) w k hk
  have hwa : ∀ L', (∀ z, z ∈ L → z ∈ L') → XF Tryz.prog W 105 #[.agg f.enc.toArray, .int .u32 w] L' (fun v L'' => v = .int .i64 k2 ∧ L'' = L') := fun L' h => xf_waits' f (hfL L' h) w k2 hk2
  obtain ⟨q, hq⟩ : ∃ q, holdsA f.a w = q := ⟨_, rfl⟩
  have hho := fun L' => xf_rholds (W := W) (L := L') f w q hq
  have hgr := fun L' (h : ∀ z, z ∈ L → z ∈ L') => xf_rgrant (W := W) (L := L') L0 (fun z hz => h z (hs z hz)) f hf w now hg
  have hsw := fun L' (h : ∀ z, z ∈ L → z ∈ L') => (hfL L' h).w
  refine xf_enter (args := [_, _, _]) Tryz.func73 rfl Tryz.ntmps73 rfl ?_
  cases hb : isM f.a.ms w with
  | false =>
    have hE : reqE f.a w = 130 := by unfold reqE; rw [hb]; rfl
    have hJ : reqF f.a w now = f.a := by unfold reqF; rw [hE]; rfl
    have hk0 : k < 0 := hk ▸ notM_ix hb
    rw [hE, hJ]
    focus
      refine xc_seq ?_
      refine xc_region ?_
      refine xo_ef rfl (ef_box rfl fun r3 => ?_)
      refine xo_ef rfl (ef_alloc fun r6 => ?_)
      refine xo_rd (rd_assign rfl) rfl ?_
      refine xo_nil ?_
      refine xq_seq ?_
      refine xc_seq ?_
      refine xc_seq ?_
      refine xc_region ?_
      refine xo_rd (rd_loadB rfl Kn.o1 (by rfl)) rfl ?_
      refine xo_rd (rd_move rfl) rfl ?_
      refine xo_ef rfl (ef_call rfl (XF.mono (hfi _ (by intro z hz; simp [hz])) ?_))
      rintro v L' ⟨rfl, rfl⟩
      refine xo_rd (rd_lss rfl rfl) rfl ?_
      refine xo_nil ?_
      refine xq_seq ?_
      refine xc_dec rfl (fun h1 => ?_) (fun h1 => (by exfalso; omega))
      refine xc_seq ?_
      refine xc_region ?_
      refine xo_rd (rd_loadB rfl Kn.o1 (by rfl)) rfl ?_
      refine xo_ef rfl (ef_storeB [] _ rfl rfl (by first | rfl | assumption) rfl rfl rfl ?_)
      refine xo_rd (rd_assign rfl) rfl ?_
      refine xo_nil ?_
      refine xq_seq ?_
      refine xc_ret ?_
      refine xq_then_ret ?_
    exact xq_retB2 (.inl rfl) Tryz.results73 rfl rfl Kn.o0 rfl (List.sublist_append_right [_, _] _) ⟨f, [], rfl, rfl, hf, rfl⟩
  | true =>
    have hk0 : 0 ≤ k := hk ▸ isM_ix hb
    by_cases hqw : q = true ∨ w ∈ f.a.wt
    · have hE : reqE f.a w = 132 := by unfold reqE; rw [if_pos hb, if_pos (by rw [hq]; exact hqw)]
      have hJ : reqF f.a w now = f.a := by unfold reqF; rw [hE]; rfl
      rw [hE, hJ]
      cases q with
      | true =>
        focus
          refine xc_seq ?_
          refine xc_region ?_
          refine xo_ef rfl (ef_box rfl fun r3 => ?_)
          refine xo_ef rfl (ef_alloc fun r6 => ?_)
          refine xo_rd (rd_assign rfl) rfl ?_
          refine xo_nil ?_
          refine xq_seq ?_
          refine xc_seq ?_
          refine xc_seq ?_
          refine xc_region ?_
          refine xo_rd (rd_loadB rfl Kn.o1 (by rfl)) rfl ?_
          refine xo_rd (rd_move rfl) rfl ?_
          refine xo_ef rfl (ef_call rfl (XF.mono (hfi _ (by intro z hz; simp [hz])) ?_))
          rintro v L' ⟨rfl, rfl⟩
          refine xo_rd (rd_lss rfl rfl) rfl ?_
          refine xo_nil ?_
          refine xq_seq ?_
          refine xc_dec rfl (fun h1 => (by exfalso; omega)) (fun h1 => ?_)
          refine xc_skip ?_
          refine xq_seq ?_
          refine xc_seq ?_
          refine xc_seq ?_
          refine xc_region ?_
          refine xo_rd (rd_loadB rfl Kn.o1 (by rfl)) rfl ?_
          refine xo_rd (rd_move rfl) rfl ?_
          refine xo_ef rfl (ef_call rfl (XF.mono (hho _) ?_))
          rintro v L' ⟨rfl, rfl⟩
          refine xo_rd (rd_move rfl) rfl ?_
          refine xo_gskip rfl rfl rfl rfl ?_
          refine xo_gskip rfl rfl rfl rfl ?_
          refine xo_gskip rfl rfl rfl rfl ?_
          refine xo_gskip rfl rfl rfl rfl ?_
          refine xo_rd (rd_pickt rfl rfl) rfl ?_
          refine xo_nil ?_
          refine xq_seq ?_
          refine xc_condt rfl ?_
          refine xc_seq ?_
          refine xc_region ?_
          refine xo_rd (rd_loadB rfl Kn.o1 (by rfl)) rfl ?_
          refine xo_ef rfl (ef_storeB [] _ rfl rfl (by first | rfl | assumption) rfl rfl rfl ?_)
          refine xo_rd (rd_assign rfl) rfl ?_
          refine xo_nil ?_
          refine xq_seq ?_
          refine xc_ret ?_
          refine xq_then_ret ?_
        exact xq_retB2 (.inl rfl) Tryz.results73 rfl rfl Kn.o0 rfl (List.sublist_append_right [_, _] _) ⟨f, [], rfl, rfl, hf, rfl⟩
      | false =>
        have hk20 : 0 ≤ k2 := hk2 ▸ mem_ixOf (hqw.resolve_left (by decide))
        focus
          refine xc_seq ?_
          refine xc_region ?_
          refine xo_ef rfl (ef_box rfl fun r3 => ?_)
          refine xo_ef rfl (ef_alloc fun r6 => ?_)
          refine xo_rd (rd_assign rfl) rfl ?_
          refine xo_nil ?_
          refine xq_seq ?_
          refine xc_seq ?_
          refine xc_seq ?_
          refine xc_region ?_
          refine xo_rd (rd_loadB rfl Kn.o1 (by rfl)) rfl ?_
          refine xo_rd (rd_move rfl) rfl ?_
          refine xo_ef rfl (ef_call rfl (XF.mono (hfi _ (by intro z hz; simp [hz])) ?_))
          rintro v L' ⟨rfl, rfl⟩
          refine xo_rd (rd_lss rfl rfl) rfl ?_
          refine xo_nil ?_
          refine xq_seq ?_
          refine xc_dec rfl (fun h1 => (by exfalso; omega)) (fun h1 => ?_)
          refine xc_skip ?_
          refine xq_seq ?_
          refine xc_seq ?_
          refine xc_seq ?_
          refine xc_region ?_
          refine xo_rd (rd_loadB rfl Kn.o1 (by rfl)) rfl ?_
          refine xo_rd (rd_move rfl) rfl ?_
          refine xo_ef rfl (ef_call rfl (XF.mono (hho _) ?_))
          rintro v L' ⟨rfl, rfl⟩
          refine xo_rd (rd_move rfl) rfl ?_
          refine xo_grd rfl rfl (rd_loadB rfl Kn.o1 (by rfl)) rfl ?_
          refine xo_grd rfl rfl (rd_move rfl) rfl ?_
          refine xo_gef rfl rfl rfl (ef_call rfl (XF.mono (hwa _ (by intro z hz; simp [hz])) ?_))
          rintro v L' ⟨rfl, rfl⟩
          refine xo_grd rfl rfl (rd_geq rfl rfl) rfl ?_
          refine xo_rd (rd_pickf rfl rfl) rfl ?_
          refine xo_nil ?_
          refine xq_seq ?_
          refine xc_dec rfl (fun h2 => ?_) (fun h2 => (by exfalso; omega))
          refine xc_seq ?_
          refine xc_region ?_
          refine xo_rd (rd_loadB rfl Kn.o1 (by rfl)) rfl ?_
          refine xo_ef rfl (ef_storeB [] _ rfl rfl (by first | rfl | assumption) rfl rfl rfl ?_)
          refine xo_rd (rd_assign rfl) rfl ?_
          refine xo_nil ?_
          refine xq_seq ?_
          refine xc_ret ?_
          refine xq_then_ret ?_
        exact xq_retB2 (.inl rfl) Tryz.results73 rfl rfl Kn.o0 rfl (List.sublist_append_right [_, _] _) ⟨f, [], rfl, rfl, hf, rfl⟩
    · obtain rfl : q = false := by
        cases q
        · rfl
        · exact absurd (.inl rfl) hqw
      have hk20 : k2 < 0 := by
        by_cases h1 : ixOf f.a.wt w < 0
        · omega
        · exact absurd (.inr (ixOf_mem (by omega))) hqw
      cases hh : f.a.held with
      | false =>
        have hE : reqE f.a w = 0 := by unfold reqE; rw [if_pos hb, if_neg (by rw [hq]; exact hqw), if_neg (by rw [hh]; simp)]
        have hJ : reqF f.a w now = grantF f.a w now := by unfold reqF; rw [if_pos hE, if_neg (by rw [hh]; decide)]
        rw [hE, hJ]
        focus
          refine xc_seq ?_
          refine xc_region ?_
          refine xo_ef rfl (ef_box rfl fun r3 => ?_)
          refine xo_ef rfl (ef_alloc fun r6 => ?_)
          refine xo_rd (rd_assign rfl) rfl ?_
          refine xo_nil ?_
          refine xq_seq ?_
          refine xc_seq ?_
          refine xc_seq ?_
          refine xc_region ?_
          refine xo_rd (rd_loadB rfl Kn.o1 (by rfl)) rfl ?_
          refine xo_rd (rd_move rfl) rfl ?_
          refine xo_ef rfl (ef_call rfl (XF.mono (hfi _ (by intro z hz; simp [hz])) ?_))
          rintro v L' ⟨rfl, rfl⟩
          refine xo_rd (rd_lss rfl rfl) rfl ?_
          refine xo_nil ?_
          refine xq_seq ?_
          refine xc_dec rfl (fun hz1 => (by exfalso; omega)) (fun hz1 => ?_)
          refine xc_skip ?_
          refine xq_seq ?_
          refine xc_seq ?_
          refine xc_seq ?_
          refine xc_region ?_
          refine xo_rd (rd_loadB rfl Kn.o1 (by rfl)) rfl ?_
          refine xo_rd (rd_move rfl) rfl ?_
          refine xo_ef rfl (ef_call rfl (XF.mono (hho _) ?_))
          rintro v L' ⟨rfl, rfl⟩
          refine xo_rd (rd_move rfl) rfl ?_
          refine xo_grd rfl rfl (rd_loadB rfl Kn.o1 (by rfl)) rfl ?_
          refine xo_grd rfl rfl (rd_move rfl) rfl ?_
          refine xo_gef rfl rfl rfl (ef_call rfl (XF.mono (hwa _ (by intro z hz; simp [hz])) ?_))
          rintro v L' ⟨rfl, rfl⟩
          refine xo_grd rfl rfl (rd_geq rfl rfl) rfl ?_
          refine xo_rd (rd_pickf rfl rfl) rfl ?_
          refine xo_nil ?_
          refine xq_seq ?_
          refine xc_dec rfl (fun hz2 => (by exfalso; omega)) (fun hz2 => ?_)
          refine xc_skip ?_
          refine xq_seq ?_
          refine xc_seq ?_
          refine xc_seq ?_
          refine xc_region ?_
          refine xo_rd (rd_fieldAddr rfl) rfl ?_
          refine xo_rd (rd_cast (v' := .bool false) (rd_load1 rfl (Cl.own (i := 3) (List.mem_cons_of_mem _ List.mem_cons_self) rfl)) (by rw [← hh]; rfl)) rfl ?_
          refine xo_rd (rd_not rfl) rfl ?_
          refine xo_nil ?_
          refine xq_seq ?_
          refine xc_condt rfl ?_
          refine xc_seq ?_
          refine xc_region ?_
          refine xo_rd (rd_loadB rfl Kn.o1 (by rfl)) rfl ?_
          refine xo_rd (rd_move rfl) rfl ?_
          refine xo_rd (rd_move rfl) rfl ?_
          refine xo_ef rfl (ef_call rfl (XF.mono (hgr _ (by intro z hz; simp [hz])) ?_))
          rintro v L' ⟨y, N, rfl, hya, hyat, rfl⟩
          refine xo_seg [_, _] N _ ?_
          refine xo_ef rfl (ef_storeB [] _ rfl rfl (by first | rfl | assumption) rfl rfl rfl ?_)
          refine xo_rd (rd_assign rfl) rfl ?_
          refine xo_nil ?_
          refine xq_seq ?_
          refine xc_ret ?_
          refine xq_then_ret ?_
        all_goals first
          | exact xq_retB2 (.inl rfl) Tryz.results73 rfl rfl Kn.o0 rfl (List.sublist_append_right [_, _] _) ⟨y, N, rfl, hya, hyat, rfl⟩
          | (exfalso; simp_all)
      | true =>
        by_cases hbd : f.a.bound ≤ f.a.wt.length
        · have hE : reqE f.a w = 131 := by unfold reqE; rw [if_pos hb, if_neg (by rw [hq]; exact hqw), if_pos ⟨hh, hbd⟩]
          have hJ : reqF f.a w now = f.a := by unfold reqF; rw [hE]; rfl
          rw [hE, hJ]
          focus
            refine xc_seq ?_
            refine xc_region ?_
            refine xo_ef rfl (ef_box rfl fun r3 => ?_)
            refine xo_ef rfl (ef_alloc fun r6 => ?_)
            refine xo_rd (rd_assign rfl) rfl ?_
            refine xo_nil ?_
            refine xq_seq ?_
            refine xc_seq ?_
            refine xc_seq ?_
            refine xc_region ?_
            refine xo_rd (rd_loadB rfl Kn.o1 (by rfl)) rfl ?_
            refine xo_rd (rd_move rfl) rfl ?_
            refine xo_ef rfl (ef_call rfl (XF.mono (hfi _ (by intro z hz; simp [hz])) ?_))
            rintro v L' ⟨rfl, rfl⟩
            refine xo_rd (rd_lss rfl rfl) rfl ?_
            refine xo_nil ?_
            refine xq_seq ?_
            refine xc_dec rfl (fun hz1 => (by exfalso; omega)) (fun hz1 => ?_)
            refine xc_skip ?_
            refine xq_seq ?_
            refine xc_seq ?_
            refine xc_seq ?_
            refine xc_region ?_
            refine xo_rd (rd_loadB rfl Kn.o1 (by rfl)) rfl ?_
            refine xo_rd (rd_move rfl) rfl ?_
            refine xo_ef rfl (ef_call rfl (XF.mono (hho _) ?_))
            rintro v L' ⟨rfl, rfl⟩
            refine xo_rd (rd_move rfl) rfl ?_
            refine xo_grd rfl rfl (rd_loadB rfl Kn.o1 (by rfl)) rfl ?_
            refine xo_grd rfl rfl (rd_move rfl) rfl ?_
            refine xo_gef rfl rfl rfl (ef_call rfl (XF.mono (hwa _ (by intro z hz; simp [hz])) ?_))
            rintro v L' ⟨rfl, rfl⟩
            refine xo_grd rfl rfl (rd_geq rfl rfl) rfl ?_
            refine xo_rd (rd_pickf rfl rfl) rfl ?_
            refine xo_nil ?_
            refine xq_seq ?_
            refine xc_dec rfl (fun hz2 => (by exfalso; omega)) (fun hz2 => ?_)
            refine xc_skip ?_
            refine xq_seq ?_
            refine xc_seq ?_
            refine xc_seq ?_
            refine xc_region ?_
            refine xo_rd (rd_fieldAddr rfl) rfl ?_
            refine xo_rd (rd_load1 rfl (Cl.o1 rfl)) rfl ?_
            refine xo_rd (rd_not rfl) rfl ?_
            refine xo_nil ?_
            refine xq_seq ?_
            refine xc_cond rfl (fun hz3 => ?_) (fun hz3 => ?_)
            refine xc_seq ?_
            refine xc_region ?_
            refine xo_rd (rd_loadB rfl Kn.o1 (by rfl)) rfl ?_
            refine xo_rd (rd_move rfl) rfl ?_
            refine xo_rd (rd_move rfl) rfl ?_
            refine xo_ef rfl (ef_call rfl (XF.mono (hgr _ (by intro z hz; simp [hz])) ?_))
            rintro v L' ⟨y, N, rfl, hya, hyat, rfl⟩
            refine xo_seg [_, _] N _ ?_
            refine xo_ef rfl (ef_storeB [] _ rfl rfl (by first | rfl | assumption) rfl rfl rfl ?_)
            refine xo_rd (rd_assign rfl) rfl ?_
            refine xo_nil ?_
            refine xq_seq ?_
            refine xc_ret ?_
            refine xq_then_ret ?_
            rotate_left
            refine xc_skip ?_
            refine xq_seq ?_
            refine xc_seq ?_
            refine xc_seq ?_
            refine xc_region ?_
            refine xo_rd (rd_fieldAddr rfl) rfl ?_
            refine xo_rd (rd_load1 rfl (Cl.o1 rfl)) rfl ?_
            refine xo_rd (rd_len rfl) rfl ?_
            refine xo_rd (rd_fieldAddr rfl) rfl ?_
            refine xo_rd (rd_load1 rfl (Cl.o1 rfl)) rfl ?_
            refine xo_rd (rd_geq rfl rfl) rfl ?_
            refine xo_nil ?_
            refine xq_seq ?_
            refine xc_dec rfl (fun hz4 => ?_) (fun hz4 => (by exfalso; omega))
            refine xc_seq ?_
            refine xc_region ?_
            refine xo_rd (rd_loadB rfl Kn.o1 (by rfl)) rfl ?_
            refine xo_ef rfl (ef_storeB [] _ rfl rfl (by first | rfl | assumption) rfl rfl rfl ?_)
            refine xo_rd (rd_assign rfl) rfl ?_
            refine xo_nil ?_
            refine xq_seq ?_
            refine xc_ret ?_
            refine xq_then_ret ?_
            rotate_left
          all_goals first
            | exact xq_retB2 (.inl rfl) Tryz.results73 rfl rfl Kn.o0 rfl (List.sublist_append_right [_, _] _) ⟨f, [], rfl, rfl, hf, rfl⟩
            | (exfalso; simp_all)
        · have hE : reqE f.a w = 0 := by unfold reqE; rw [if_pos hb, if_neg (by rw [hq]; exact hqw), if_neg (fun h => hbd h.2)]
          have hJ : reqF f.a w now = { f.a with wt := f.a.wt ++ [w] } := by unfold reqF; rw [if_pos hE, if_pos hh]
          rw [hE, hJ]
          focus
            refine xc_seq ?_
            refine xc_region ?_
            refine xo_ef rfl (ef_box rfl fun r3 => ?_)
            refine xo_ef rfl (ef_alloc fun r6 => ?_)
            refine xo_rd (rd_assign rfl) rfl ?_
            refine xo_nil ?_
            refine xq_seq ?_
            refine xc_seq ?_
            refine xc_seq ?_
            refine xc_region ?_
            refine xo_rd (rd_loadB rfl Kn.o1 (by rfl)) rfl ?_
            refine xo_rd (rd_move rfl) rfl ?_
            refine xo_ef rfl (ef_call rfl (XF.mono (hfi _ (by intro z hz; simp [hz])) ?_))
            rintro v L' ⟨rfl, rfl⟩
            refine xo_rd (rd_lss rfl rfl) rfl ?_
            refine xo_nil ?_
            refine xq_seq ?_
            refine xc_dec rfl (fun hz1 => (by exfalso; omega)) (fun hz1 => ?_)
            refine xc_skip ?_
            refine xq_seq ?_
            refine xc_seq ?_
            refine xc_seq ?_
            refine xc_region ?_
            refine xo_rd (rd_loadB rfl Kn.o1 (by rfl)) rfl ?_
            refine xo_rd (rd_move rfl) rfl ?_
            refine xo_ef rfl (ef_call rfl (XF.mono (hho _) ?_))
            rintro v L' ⟨rfl, rfl⟩
            refine xo_rd (rd_move rfl) rfl ?_
            refine xo_grd rfl rfl (rd_loadB rfl Kn.o1 (by rfl)) rfl ?_
            refine xo_grd rfl rfl (rd_move rfl) rfl ?_
            refine xo_gef rfl rfl rfl (ef_call rfl (XF.mono (hwa _ (by intro z hz; simp [hz])) ?_))
            rintro v L' ⟨rfl, rfl⟩
            refine xo_grd rfl rfl (rd_geq rfl rfl) rfl ?_
            refine xo_rd (rd_pickf rfl rfl) rfl ?_
            refine xo_nil ?_
            refine xq_seq ?_
            refine xc_dec rfl (fun hz2 => (by exfalso; omega)) (fun hz2 => ?_)
            refine xc_skip ?_
            refine xq_seq ?_
            refine xc_seq ?_
            refine xc_seq ?_
            refine xc_region ?_
            refine xo_rd (rd_fieldAddr rfl) rfl ?_
            refine xo_rd (rd_load1 rfl (Cl.o1 rfl)) rfl ?_
            refine xo_rd (rd_not rfl) rfl ?_
            refine xo_nil ?_
            refine xq_seq ?_
            refine xc_cond rfl (fun hz3 => ?_) (fun hz3 => ?_)
            refine xc_seq ?_
            refine xc_region ?_
            refine xo_rd (rd_loadB rfl Kn.o1 (by rfl)) rfl ?_
            refine xo_rd (rd_move rfl) rfl ?_
            refine xo_rd (rd_move rfl) rfl ?_
            refine xo_ef rfl (ef_call rfl (XF.mono (hgr _ (by intro z hz; simp [hz])) ?_))
            rintro v L' ⟨y, N, rfl, hya, hyat, rfl⟩
            refine xo_seg [_, _] N _ ?_
            refine xo_ef rfl (ef_storeB [] _ rfl rfl (by first | rfl | assumption) rfl rfl rfl ?_)
            refine xo_rd (rd_assign rfl) rfl ?_
            refine xo_nil ?_
            refine xq_seq ?_
            refine xc_ret ?_
            refine xq_then_ret ?_
            rotate_left
            refine xc_skip ?_
            refine xq_seq ?_
            refine xc_seq ?_
            refine xc_seq ?_
            refine xc_region ?_
            refine xo_rd (rd_fieldAddr rfl) rfl ?_
            refine xo_rd (rd_load1 rfl (Cl.o1 rfl)) rfl ?_
            refine xo_rd (rd_len rfl) rfl ?_
            refine xo_rd (rd_fieldAddr rfl) rfl ?_
            refine xo_rd (rd_load1 rfl (Cl.o1 rfl)) rfl ?_
            refine xo_rd (rd_geq rfl rfl) rfl ?_
            refine xo_nil ?_
            refine xq_seq ?_
            refine xc_dec rfl (fun hz4 => (by exfalso; omega)) (fun hz4 => ?_)
            refine xc_skip ?_
            refine xq_seq ?_
            refine xc_seq ?_
            refine xc_region ?_
            refine xo_rd (rd_assign rfl) rfl ?_
            refine xo_nil ?_
            refine xq_seq ?_
            refine xc_seq ?_
            refine xc_region ?_
            refine xo_rd (rd_move rfl) rfl ?_
            refine xo_rd (rd_fieldAddr rfl) rfl ?_
            refine xo_rd (rd_load1 rfl (Cl.o1 rfl)) rfl ?_
            refine xo_ef rfl (ef_appendQS [_, _] _ [] (news := ints .u32 f.a.wt) rfl rfl SlQ.nil rfl (hsw _ (by intro z hz; simp [hz])) (by simp [ints]) (ints_one _ _) (by decide) (by omega) (by omega) fun gp1 gc1 gl1 hO1 hk1 => ?_)
            refine xo_rd (rd_assign rfl) rfl ?_
            refine xo_nil ?_
            refine xq_seq ?_
            rotate_left
          · exact absurd hz3 (by rw [hh]; decide)
          · skip
            rw [List.nil_append] at hO1
            rw [Nat.zero_add f.a.wt.length] at hO1 hk1 ⊢
            focus
              refine xc_seq ?_
              refine xc_region ?_
              refine xo_rd (rd_move rfl) rfl ?_
              refine xo_rd (rd_move rfl) rfl ?_
              refine xo_ef rfl (ef_buildL (T := 39) (len := 1) (s := 1) (cells := (ints .u32 [w]).toArray) rfl (by decide) (by decide) (by kernel_rfl) fun r44 => ?_)
              refine xo_ef rfl (ef_appendQS [_, _, _] L gl1 (news := ints .u32 [w]) rfl rfl hO1 rfl rs_cons rfl rfl (by decide) (by omega) (by omega) fun gp2 gc2 gl2 hO2 hk2 => ?_)
              refine xo_rd (rd_fieldAddr rfl) rfl ?_
              refine xo_ef rfl (ef_store1 [_, _] _ rfl rfl (by first | rfl | assumption) rfl rfl rfl ?_)
              refine xo_nil ?_
              refine xq_seq ?_
              refine xc_seq ?_
              refine xc_region ?_
              refine xo_rd (rd_loadB rfl Kn.o2 (by rfl)) rfl ?_
              refine xo_ef rfl (ef_storeB [_] _ rfl rfl (by first | rfl | assumption) rfl rfl rfl ?_)
              refine xo_rd (rd_assign rfl) rfl ?_
              refine xo_nil ?_
              refine xq_seq ?_
              refine xc_ret ?_
            exact xq_retB2 (.inl rfl) Tryz.results73 rfl rfl Kn.o1 rfl (List.sublist_append_right [_, _, _] _) ⟨⟨{ f.a with wt := f.a.wt ++ [w] }, f.mp, f.mc, gp2, gc2, f.gp, f.gc⟩, gl2, by simp only [Rf.enc, List.length_append, List.length_singleton]; rfl, rfl, ⟨hf.m.mono (by intro z hz; simp [hz]), by dsimp only; rw [ints_app]; exact hO2.rs (by intro z hz; simp [hz]), hf.g.mono (by intro z hz; simp [hz]), hf.mc, hf.ml, by dsimp only; rw [List.length_append, List.length_singleton]; omega, hf.gl⟩, rfl⟩
set_option maxHeartbeats 800000 in
theorem xf_rRevoke {W : World} {L : List Blk} (L0 : List Blk) (hs : ∀ z, z ∈ L0 → z ∈ L) (f : Rf) (hf : f.At W L0) (bw w now : Int) (hg : f.a.gs.length < 1000000) : XF Tryz.prog W 75 #[.agg f.enc.toArray, .int .u32 bw, .int .u32 w, .int .u64 now] L (fun v L' => ∃ y N, v = .tuple #[.agg (Rf.enc y).toArray, .int .i64 (revE f.a bw w)] ∧ y.a = revF f.a bw w now ∧ y.At W (N ++ L0) ∧ L' = N ++ L) := by
  have hfL : ∀ L', (∀ z, z ∈ L → z ∈ L') → f.At W L' := fun L' h => hf.mono fun z hz => h z (hs z hz)
  obtain ⟨k, hk⟩ : ∃ k, ixOf (f.a.ms.map (·.1)) bw = k := ⟨_, rfl⟩
  obtain ⟨k2, hk2⟩ : ∃ k, ixOf (f.a.ms.map (·.1)) w = k := ⟨_, rfl⟩
  have hfi : ∀ L', (∀ z, z ∈ L → z ∈ L') → XF Tryz.prog W 104 #[.agg f.enc.toArray, .int .u32 bw] L' (fun v L'' => v = .int .i64 k ∧ L'' = L') := fun L' h => xf_find' f (hfL L' h) bw k hk
  have hfi2 : ∀ L', (∀ z, z ∈ L → z ∈ L') → XF Tryz.prog W 104 #[.agg f.enc.toArray, .int .u32 w] L' (fun v L'' => v = .int .i64 k2 ∧ L'' = L') := fun L' h => xf_find' f (hfL L' h) w k2 hk2
  have hre := fun L' (h : ∀ z, z ∈ L → z ∈ L') => xf_rRelease (W := W) (L := L') L0 (fun z hz => h z (hs z hz)) f hf w now hg
  refine xf_enter (args := [_, _, _, _]) Tryz.func75 rfl Tryz.ntmps75 rfl ?_
  cases hb : isM f.a.ms bw with
  | false =>
    have hE : revE f.a bw w = 130 := by unfold revE; rw [if_neg (by rw [hb]; simp)]
    have hJ : revF f.a bw w now = f.a := by unfold revF; rw [hE]; rfl
    have hk0 : k < 0 := hk ▸ notM_ix hb
    rw [hE, hJ]
    focus
      refine xc_seq ?_
      refine xc_region ?_
      refine xo_ef rfl (ef_box rfl fun r4 => ?_)
      refine xo_ef rfl (ef_alloc fun r8 => ?_)
      refine xo_rd (rd_assign rfl) rfl ?_
      refine xo_nil ?_
      refine xq_seq ?_
      refine xc_seq ?_
      refine xc_seq ?_
      refine xc_region ?_
      refine xo_rd (rd_loadB rfl Kn.o1 (by rfl)) rfl ?_
      refine xo_rd (rd_move rfl) rfl ?_
      refine xo_ef rfl (ef_call rfl (XF.mono (hfi _ (by intro z hz; simp [hz])) ?_))
      rintro v L' ⟨rfl, rfl⟩
      refine xo_rd (rd_lss rfl rfl) rfl ?_
      refine xo_rd (rd_move rfl) rfl ?_
      refine xo_dec 14 rfl (fun h1 => ?_) (fun h1 => (by exfalso; omega))
      refine xo_gskip rfl rfl rfl rfl ?_
      refine xo_gskip rfl rfl rfl rfl ?_
      refine xo_gskip rfl rfl rfl rfl ?_
      refine xo_gskip rfl rfl rfl rfl ?_
      refine xo_rd (rd_pickt rfl rfl) rfl ?_
      refine xo_nil ?_
      refine xq_seq ?_
      refine xc_condt rfl ?_
      refine xc_seq ?_
      refine xc_region ?_
      refine xo_rd (rd_loadB rfl Kn.o1 (by rfl)) rfl ?_
      refine xo_ef rfl (ef_storeB [] _ rfl rfl (by first | rfl | assumption) rfl rfl rfl ?_)
      refine xo_rd (rd_assign rfl) rfl ?_
      refine xo_nil ?_
      refine xq_seq ?_
      refine xc_ret ?_
      refine xq_then_ret ?_
    exact xq_retB2 (.inl rfl) Tryz.results75 rfl rfl Kn.o0 rfl (List.sublist_append_right [_, _] _) ⟨f, [], rfl, rfl, hf, rfl⟩
  | true =>
    have hk0 : 0 ≤ k := hk ▸ isM_ix hb
    cases hb2 : isM f.a.ms w with
    | false =>
      have hE : revE f.a bw w = 130 := by unfold revE; rw [if_neg (by rw [hb2]; simp)]
      have hJ : revF f.a bw w now = f.a := by unfold revF; rw [hE]; rfl
      have hk20 : k2 < 0 := hk2 ▸ notM_ix hb2
      rw [hE, hJ]
      focus
        refine xc_seq ?_
        refine xc_region ?_
        refine xo_ef rfl (ef_box rfl fun r4 => ?_)
        refine xo_ef rfl (ef_alloc fun r8 => ?_)
        refine xo_rd (rd_assign rfl) rfl ?_
        refine xo_nil ?_
        refine xq_seq ?_
        refine xc_seq ?_
        refine xc_seq ?_
        refine xc_region ?_
        refine xo_rd (rd_loadB rfl Kn.o1 (by rfl)) rfl ?_
        refine xo_rd (rd_move rfl) rfl ?_
        refine xo_ef rfl (ef_call rfl (XF.mono (hfi _ (by intro z hz; simp [hz])) ?_))
        rintro v L' ⟨rfl, rfl⟩
        refine xo_rd (rd_lss rfl rfl) rfl ?_
        refine xo_rd (rd_move rfl) rfl ?_
        refine xo_dec 14 rfl (fun h1 => (by exfalso; omega)) (fun h1 => ?_)
        refine xo_grd rfl rfl (rd_loadB rfl Kn.o1 (by rfl)) rfl ?_
        refine xo_grd rfl rfl (rd_move rfl) rfl ?_
        refine xo_gef rfl rfl rfl (ef_call rfl (XF.mono (hfi2 _ (by intro z hz; simp [hz])) ?_))
        rintro v L' ⟨rfl, rfl⟩
        refine xo_grd rfl rfl (rd_lss rfl rfl) rfl ?_
        refine xo_rd (rd_pickf rfl rfl) rfl ?_
        refine xo_nil ?_
        refine xq_seq ?_
        refine xc_dec rfl (fun h2 => ?_) (fun h2 => (by exfalso; omega))
        refine xc_seq ?_
        refine xc_region ?_
        refine xo_rd (rd_loadB rfl Kn.o1 (by rfl)) rfl ?_
        refine xo_ef rfl (ef_storeB [] _ rfl rfl (by first | rfl | assumption) rfl rfl rfl ?_)
        refine xo_rd (rd_assign rfl) rfl ?_
        refine xo_nil ?_
        refine xq_seq ?_
        refine xc_ret ?_
        refine xq_then_ret ?_
      exact xq_retB2 (.inl rfl) Tryz.results75 rfl rfl Kn.o0 rfl (List.sublist_append_right [_, _] _) ⟨f, [], rfl, rfl, hf, rfl⟩
    | true =>
      have hk20 : 0 ≤ k2 := hk2 ▸ isM_ix hb2
      obtain ⟨i, hil, hix, hiw⟩ := ix_at (isM_mem.1 hb)
      rw [List.length_map] at hil
      have hki : k = i := hk.symm.trans hix
      subst hki
      obtain ⟨b, o, hp, hc⟩ := hf.m.rows mEnc_len (by decide) (by omega)
      have hcm : ∀ L', (∀ z, z ∈ L → z ∈ L') → Cl W L' b (o + (i : Int).toNat * 2 + 1) (.bool (f.a.ms[i]).2) := fun L' h => (hc i hil 1 _ rfl).mono fun z hz => h z (hs z hz)
      have hmo : modA f.a.ms bw = (f.a.ms[i]).2 := by unfold modA; rw [find_ix hix hil]; rfl
      cases hm : (f.a.ms[i]).2 with
      | false =>
        have hE : revE f.a bw w = 134 := by unfold revE; rw [if_pos ⟨hb, hb2⟩, if_neg (by rw [hmo, hm]; decide)]
        have hJ : revF f.a bw w now = f.a := by unfold revF; rw [hE]; rfl
        rw [hE, hJ]
        rw [hm] at hcm
        focus
          refine xc_seq ?_
          refine xc_region ?_
          refine xo_ef rfl (ef_box rfl fun r4 => ?_)
          refine xo_ef rfl (ef_alloc fun r8 => ?_)
          refine xo_rd (rd_assign rfl) rfl ?_
          refine xo_nil ?_
          refine xq_seq ?_
          refine xc_seq ?_
          refine xc_seq ?_
          refine xc_region ?_
          refine xo_rd (rd_loadB rfl Kn.o1 (by rfl)) rfl ?_
          refine xo_rd (rd_move rfl) rfl ?_
          refine xo_ef rfl (ef_call rfl (XF.mono (hfi _ (by intro z hz; simp [hz])) ?_))
          rintro v L' ⟨rfl, rfl⟩
          refine xo_rd (rd_lss rfl rfl) rfl ?_
          refine xo_rd (rd_move rfl) rfl ?_
          refine xo_grd rfl rfl (rd_loadB rfl Kn.o1 (by rfl)) rfl ?_
          refine xo_grd rfl rfl (rd_move rfl) rfl ?_
          refine xo_gef rfl rfl rfl (ef_call rfl (XF.mono (hfi2 _ (by intro z hz; simp [hz])) ?_))
          rintro v L' ⟨rfl, rfl⟩
          refine xo_grd rfl rfl (rd_lss rfl rfl) rfl ?_
          refine xo_rd (rd_pickf rfl rfl) rfl ?_
          refine xo_nil ?_
          refine xq_seq ?_
          refine xc_dec rfl (fun h1 => (by exfalso; omega)) (fun h1 => ?_)
          refine xc_skip ?_
          refine xq_seq ?_
          refine xc_seq ?_
          refine xc_seq ?_
          refine xc_drawML [0, 1, 0, 0, 12, 18, 32, 64, 128] [0, 1, 0, 0, 12, 18, 32, 64, 128] (by kernel_rfl) (by kernel_rfl) (by kernel_rfl) ?_
          refine xm_take 0 (m' := 1) rfl (by kernel_rfl) Sb.a (rd_fieldAddr rfl) rfl (by kernel_rfl) ?_
          refine xm_take 1 (m' := 3) rfl (by kernel_rfl) Sb.a (rd_cast (v' := .slice (some ⟨b, o, none⟩) f.a.ms.length f.mc) (rd_load1 rfl (Cl.own (i := 2) (List.mem_cons_of_mem _ List.mem_cons_self) rfl)) (by rw [← hp]; rfl)) rfl (by kernel_rfl) ?_
          refine xm_take 2 (m' := 7) rfl (by kernel_rfl) Sb.a (rd_loadB rfl Kn.o1 (by rfl)) rfl (by kernel_rfl) ?_
          refine xm_take 3 (m' := 15) rfl (by kernel_rfl) Sb.a (rd_move rfl) rfl (by kernel_rfl) ?_
          refine xm_one 4 (m' := 31) rfl (by kernel_rfl) rfl (by kernel_rfl) (ef_call rfl (XF.mono (hfi _ (by intro z hz; simp [hz])) ?_))
          rintro v L' ⟨rfl, rfl⟩
          refine ⟨Sb.a, ?_⟩
          refine xm_take 5 (m' := 63) rfl (by kernel_rfl) Sb.a (rd_indexAddr rfl rfl (by omega) (by omega)) rfl (by kernel_rfl) ?_
          refine xm_take 6 (m' := 127) rfl (by kernel_rfl) Sb.a (rd_fieldAddr rfl) rfl (by kernel_rfl) ?_
          refine xm_take 7 (m' := 255) rfl (by kernel_rfl) Sb.a (rd_load1 rfl (hcm _ (by intro z hz; simp [hz]))) rfl (by kernel_rfl) ?_
          refine xm_take 8 (m' := 511) rfl (by kernel_rfl) Sb.a (rd_not rfl) rfl (by kernel_rfl) ?_
          refine xm_done (by kernel_rfl) ?_
          refine xq_seq ?_
          refine xc_condt rfl ?_
          refine xc_seq ?_
          refine xc_region ?_
          refine xo_rd (rd_loadB rfl Kn.o1 (by rfl)) rfl ?_
          refine xo_ef rfl (ef_storeB [] _ rfl rfl (by first | rfl | assumption) rfl rfl rfl ?_)
          refine xo_rd (rd_assign rfl) rfl ?_
          refine xo_nil ?_
          refine xq_seq ?_
          refine xc_ret ?_
          refine xq_then_ret ?_
        exact xq_retB2 (.inl rfl) Tryz.results75 rfl rfl Kn.o0 rfl (List.sublist_append_right [_, _] _) ⟨f, [], rfl, rfl, hf, rfl⟩
      | true =>
        have hE : revE f.a bw w = relE f.a w := by unfold revE; rw [if_pos ⟨hb, hb2⟩, if_pos (by rw [hmo, hm])]
        have hJ : revF f.a bw w now = relF f.a w now := by unfold revF relF; rw [hE]
        rw [hE, hJ]
        rw [hm] at hcm
        focus
          refine xc_seq ?_
          refine xc_region ?_
          refine xo_ef rfl (ef_box rfl fun r4 => ?_)
          refine xo_ef rfl (ef_alloc fun r8 => ?_)
          refine xo_rd (rd_assign rfl) rfl ?_
          refine xo_nil ?_
          refine xq_seq ?_
          refine xc_seq ?_
          refine xc_seq ?_
          refine xc_region ?_
          refine xo_rd (rd_loadB rfl Kn.o1 (by rfl)) rfl ?_
          refine xo_rd (rd_move rfl) rfl ?_
          refine xo_ef rfl (ef_call rfl (XF.mono (hfi _ (by intro z hz; simp [hz])) ?_))
          rintro v L' ⟨rfl, rfl⟩
          refine xo_rd (rd_lss rfl rfl) rfl ?_
          refine xo_rd (rd_move rfl) rfl ?_
          refine xo_grd rfl rfl (rd_loadB rfl Kn.o1 (by rfl)) rfl ?_
          refine xo_grd rfl rfl (rd_move rfl) rfl ?_
          refine xo_gef rfl rfl rfl (ef_call rfl (XF.mono (hfi2 _ (by intro z hz; simp [hz])) ?_))
          rintro v L' ⟨rfl, rfl⟩
          refine xo_grd rfl rfl (rd_lss rfl rfl) rfl ?_
          refine xo_rd (rd_pickf rfl rfl) rfl ?_
          refine xo_nil ?_
          refine xq_seq ?_
          refine xc_dec rfl (fun h1 => (by exfalso; omega)) (fun h1 => ?_)
          refine xc_skip ?_
          refine xq_seq ?_
          refine xc_seq ?_
          refine xc_seq ?_
          refine xc_drawML [0, 1, 0, 0, 12, 18, 32, 64, 128] [0, 1, 0, 0, 12, 18, 32, 64, 128] (by kernel_rfl) (by kernel_rfl) (by kernel_rfl) ?_
          refine xm_take 0 (m' := 1) rfl (by kernel_rfl) Sb.a (rd_fieldAddr rfl) rfl (by kernel_rfl) ?_
          refine xm_take 1 (m' := 3) rfl (by kernel_rfl) Sb.a (rd_cast (v' := .slice (some ⟨b, o, none⟩) f.a.ms.length f.mc) (rd_load1 rfl (Cl.own (i := 2) (List.mem_cons_of_mem _ List.mem_cons_self) rfl)) (by rw [← hp]; rfl)) rfl (by kernel_rfl) ?_
          refine xm_take 2 (m' := 7) rfl (by kernel_rfl) Sb.a (rd_loadB rfl Kn.o1 (by rfl)) rfl (by kernel_rfl) ?_
          refine xm_take 3 (m' := 15) rfl (by kernel_rfl) Sb.a (rd_move rfl) rfl (by kernel_rfl) ?_
          refine xm_one 4 (m' := 31) rfl (by kernel_rfl) rfl (by kernel_rfl) (ef_call rfl (XF.mono (hfi _ (by intro z hz; simp [hz])) ?_))
          rintro v L' ⟨rfl, rfl⟩
          refine ⟨Sb.a, ?_⟩
          refine xm_take 5 (m' := 63) rfl (by kernel_rfl) Sb.a (rd_indexAddr rfl rfl (by omega) (by omega)) rfl (by kernel_rfl) ?_
          refine xm_take 6 (m' := 127) rfl (by kernel_rfl) Sb.a (rd_fieldAddr rfl) rfl (by kernel_rfl) ?_
          refine xm_take 7 (m' := 255) rfl (by kernel_rfl) Sb.a (rd_load1 rfl (hcm _ (by intro z hz; simp [hz]))) rfl (by kernel_rfl) ?_
          refine xm_take 8 (m' := 511) rfl (by kernel_rfl) Sb.a (rd_not rfl) rfl (by kernel_rfl) ?_
          refine xm_done (by kernel_rfl) ?_
          refine xq_seq ?_
          refine xc_condf rfl ?_
          refine xc_skip ?_
          refine xq_seq ?_
          refine xc_seq ?_
          refine xc_region ?_
          refine xo_rd (rd_loadB rfl Kn.o1 (by rfl)) rfl ?_
          refine xo_rd (rd_move rfl) rfl ?_
          refine xo_rd (rd_move rfl) rfl ?_
          refine xo_ef rfl (ef_call rfl (XF.mono (hre _ (by intro z hz; simp [hz])) ?_))
          rintro v L' ⟨y, N, rfl, hya, hyat, rfl⟩
          refine xo_seg [_, _] N _ ?_
          refine xo_rd (rd_extract rfl rfl) rfl ?_
          refine xo_rd (rd_extract rfl rfl) rfl ?_
          refine xo_ef rfl (ef_storeB [] _ rfl rfl (by first | rfl | assumption) rfl rfl rfl ?_)
          refine xo_rd (rd_assign rfl) rfl ?_
          refine xo_nil ?_
          refine xq_seq ?_
          refine xc_ret ?_
        exact xq_retB2 (.inl rfl) Tryz.results75 rfl rfl Kn.o0 rfl (List.sublist_append_right [_, _] _) ⟨y, N, rfl, hya, hyat, rfl⟩
set_option maxHeartbeats 800000 in
theorem xf_rTick {W : World} {L : List Blk} (L0 : List Blk) (hs : ∀ z, z ∈ L0 → z ∈ L) (f : Rf) (hf : f.At W L0) (now : Int) (hg : f.a.gs.length < 1000000) (h0 : 0 ≤ f.a.heard) (hn : now ≤ 18446744073709551615) : XF Tryz.prog W 37 #[.agg f.enc.toArray, .int .u64 now] L (fun v L' => ∃ y N, v = .tuple #[.agg (Rf.enc y).toArray, .bool (tickA f.a now)] ∧ y.a = tickF f.a now ∧ y.At W (N ++ L0) ∧ L' = N ++ L) := by
  have hen := fun L' (h : ∀ z, z ∈ L → z ∈ L') => xf_rend (W := W) (L := L') L0 (fun z hz => h z (hs z hz)) f hf now hg
  refine xf_enter (args := [_, _]) Tryz.func37 rfl Tryz.ntmps37 rfl ?_
  have hJ : ∀ b, tickA f.a now = b → tickF f.a now = if b = true then endF f.a now else f.a := fun b h => by unfold tickF; rw [h]
  have hheld : f.a.held = true ∨ f.a.held = false := by cases f.a.held <;> simp
  focus
    refine xc_seq ?_
    refine xc_region ?_
    refine xo_ef rfl (ef_box rfl fun r2 => ?_)
    refine xo_ef rfl (ef_alloc fun r4 => ?_)
    refine xo_rd (rd_assign rfl) rfl ?_
    refine xo_nil ?_
    refine xq_seq ?_
    refine xc_seq ?_
    refine xc_seq ?_
    refine xc_region ?_
    refine xo_rd (rd_fieldAddr rfl) rfl ?_
    refine xo_rd (rd_load1 rfl (Cl.o1 rfl)) rfl ?_
    refine xo_rd (rd_not rfl) rfl ?_
    refine xo_rd (rd_move rfl) rfl ?_
    refine xo_split 9 rfl (fun hz1 => ?_) (fun hz1 => ?_)
    refine xo_gskip rfl rfl rfl rfl ?_
    refine xo_gskip rfl rfl rfl rfl ?_
    refine xo_gskip rfl rfl rfl rfl ?_
    refine xo_gskip rfl rfl rfl rfl ?_
    refine xo_rd (rd_pickt rfl rfl) rfl ?_
    refine xo_rd (rd_move rfl) rfl ?_
    refine xo_gskip rfl rfl rfl rfl ?_
    refine xo_gskip rfl rfl rfl rfl ?_
    refine xo_gskip rfl rfl rfl rfl ?_
    refine xo_gskip rfl rfl rfl rfl ?_
    refine xo_gskip rfl rfl rfl rfl ?_
    refine xo_gskip rfl rfl rfl rfl ?_
    refine xo_gskip rfl rfl rfl rfl ?_
    refine xo_rd (rd_pickt rfl rfl) rfl ?_
    refine xo_nil ?_
    refine xq_seq ?_
    refine xc_condt rfl ?_
    refine xc_seq ?_
    refine xc_region ?_
    refine xo_rd (rd_loadB rfl Kn.o1 (by rfl)) rfl ?_
    refine xo_ef rfl (ef_storeB [] _ rfl rfl (by first | rfl | assumption) rfl rfl rfl ?_)
    refine xo_rd (rd_assign rfl) rfl ?_
    refine xo_nil ?_
    refine xq_seq ?_
    refine xc_ret ?_
    refine xq_then_ret ?_
    rotate_left
    refine xo_grd rfl rfl (rd_move rfl) rfl ?_
    refine xo_grd rfl rfl (rd_fieldAddr rfl) rfl ?_
    refine xo_grd rfl rfl (rd_load1 rfl (Cl.o1 rfl)) rfl ?_
    refine xo_grd rfl rfl (rd_lss rfl rfl) rfl ?_
    refine xo_rd (rd_pickf rfl rfl) rfl ?_
    refine xo_rd (rd_move rfl) rfl ?_
    refine xo_dec 15 rfl (fun hz2 => ?_) (fun hz2 => ?_)
    refine xo_gskip rfl rfl rfl rfl ?_
    refine xo_gskip rfl rfl rfl rfl ?_
    refine xo_gskip rfl rfl rfl rfl ?_
    refine xo_gskip rfl rfl rfl rfl ?_
    refine xo_gskip rfl rfl rfl rfl ?_
    refine xo_gskip rfl rfl rfl rfl ?_
    refine xo_gskip rfl rfl rfl rfl ?_
    refine xo_rd (rd_pickt rfl rfl) rfl ?_
    refine xo_nil ?_
    refine xq_seq ?_
    refine xc_condt rfl ?_
    refine xc_seq ?_
    refine xc_region ?_
    refine xo_rd (rd_loadB rfl Kn.o1 (by rfl)) rfl ?_
    refine xo_ef rfl (ef_storeB [] _ rfl rfl (by first | rfl | assumption) rfl rfl rfl ?_)
    refine xo_rd (rd_assign rfl) rfl ?_
    refine xo_nil ?_
    refine xq_seq ?_
    refine xc_ret ?_
    refine xq_then_ret ?_
    rotate_left
    refine xo_grd rfl rfl (rd_move rfl) rfl ?_
    refine xo_grd rfl rfl (rd_fieldAddr rfl) rfl ?_
    refine xo_grd rfl rfl (rd_load1 rfl (Cl.o1 rfl)) rfl ?_
    refine xo_grd rfl rfl (rd_subn rfl rfl (by omega) (by omega)) rfl ?_
    refine xo_grd rfl rfl (rd_fieldAddr rfl) rfl ?_
    refine xo_grd rfl rfl (rd_load1 rfl (Cl.o1 rfl)) rfl ?_
    refine xo_grd rfl rfl (rd_lss rfl rfl) rfl ?_
    refine xo_rd (rd_pickf rfl rfl) rfl ?_
    refine xo_nil ?_
    refine xq_seq ?_
    refine xc_dec rfl (fun hz3 => ?_) (fun hz3 => ?_)
    refine xc_seq ?_
    refine xc_region ?_
    refine xo_rd (rd_loadB rfl Kn.o1 (by rfl)) rfl ?_
    refine xo_ef rfl (ef_storeB [] _ rfl rfl (by first | rfl | assumption) rfl rfl rfl ?_)
    refine xo_rd (rd_assign rfl) rfl ?_
    refine xo_nil ?_
    refine xq_seq ?_
    refine xc_ret ?_
    refine xq_then_ret ?_
    rotate_left
    refine xc_skip ?_
    refine xq_seq ?_
    refine xc_seq ?_
    refine xc_region ?_
    refine xo_rd (rd_loadB rfl Kn.o1 (by rfl)) rfl ?_
    refine xo_rd (rd_move rfl) rfl ?_
    refine xo_ef rfl (ef_call rfl (XF.mono (hen _ (by intro z hz; simp [hz])) ?_))
    rintro v L' ⟨y, N, rfl, hya, hyat, rfl⟩
    refine xo_seg [_, _] N _ ?_
    refine xo_ef rfl (ef_storeB [] _ rfl rfl (by first | rfl | assumption) rfl rfl rfl ?_)
    refine xo_rd (rd_assign rfl) rfl ?_
    refine xo_nil ?_
    refine xq_seq ?_
    refine xc_ret ?_
    rotate_left
  · have ht : tickA f.a now = false := by
      rcases hheld with h | h
      · rw [h] at hz1; cases hz1
      · unfold tickA; rw [h]; rfl
    rw [hJ _ ht, ht]
    exact xq_retB2 (.inl rfl) Tryz.results37 rfl rfl Kn.o0 rfl (List.sublist_append_right [_, _] _) ⟨f, [], rfl, rfl, hf, rfl⟩
  · have ht : tickA f.a now = false := by
      unfold tickA; rw [decide_eq_false (by omega : ¬ f.a.heard ≤ now), Bool.false_and, Bool.and_false]
    rw [hJ _ ht, ht]
    exact xq_retB2 (.inl rfl) Tryz.results37 rfl rfl Kn.o0 rfl (List.sublist_append_right [_, _] _) ⟨f, [], rfl, rfl, hf, rfl⟩
  · have ht : tickA f.a now = false := by
      unfold tickA; rw [decide_eq_false (by omega : ¬ f.a.sil ≤ now - f.a.heard), Bool.and_false, Bool.and_false]
    rw [hJ _ ht, ht]
    exact xq_retB2 (.inl rfl) Tryz.results37 rfl rfl Kn.o0 rfl (List.sublist_append_right [_, _] _) ⟨f, [], rfl, rfl, hf, rfl⟩
  · have ht : tickA f.a now = true := by
      rcases hheld with h | h
      · unfold tickA; rw [h, decide_eq_true (by omega : f.a.heard ≤ now), decide_eq_true (by omega : f.a.sil ≤ now - f.a.heard)]; rfl
      · rw [h] at hz1; cases hz1
    rw [hJ _ ht, ht]
    exact xq_retB2 (.inl rfl) Tryz.results37 rfl rfl Kn.o0 rfl (List.sublist_append_right [_, _] _) ⟨y, N, rfl, hya, hyat, rfl⟩
end Go.Proofs.YtmdeajdaeihniaaGreat.X
/-
  Members, and when two are the same. No condition.
-/
namespace Go.Proofs.YtmdeajdaeihniaaGreat.X
open Go Go.RowKit
set_option linter.unusedVariables false
set_option linter.unusedSimpArgs false
structure Mb where
  id : Int
  content : Int
  camera : Int
  mod : Bool
deriving DecidableEq
def Mb.enc (m : Mb) : List Value := [.int .i64 m.id, .int .u32 m.content, .int .u32 m.camera, .bool m.mod]
theorem Mb.len (m : Mb) : m.enc.length = 4 := rfl
def msMb : List (String × Nat × Nat) := [("Id", 3, 0), ("Content", 36, 1), ("Camera", 36, 2), ("Mod", 4, 3)]
theorem flatMb (a b : Mb) : FlatV Tryz.prog a.enc.toArray b.enc.toArray msMb a.enc b.enc :=
  .int (by decide) rfl rfl (.int (by decide) rfl rfl (.int (by decide) rfl rfl (.bool (by decide) rfl rfl .nil)))
theorem Mb.enc_inj (a b : Mb) : decide (a = b) = true ↔ a.enc = b.enc := by
  obtain ⟨a0, a1, a2, a3⟩ := a
  obtain ⟨b0, b1, b2, b3⟩ := b
  simp [Mb.enc]
theorem eqsMb (a b : Mb) : EqS Tryz.prog 49 a.enc b.enc (decide (a = b)) := .of msMb (by kernel_rfl) (by kernel_rfl) (by kernel_rfl) (by kernel_rfl) (flatMb a b) (Mb.enc_inj a b)
section
variable {W : World} {n : Nat} {L : List Blk} {E : List (Nat × Value)} {d : Option Nat} {t : TypeId} {pos : String} {after : Array Edge} {g : Option (Nat × Bool)}
theorem rd_eqMb34 {T' : Nat} {x y : Operand} {a b : Mb} (hx : ev E x = some (.agg a.enc.toArray)) (hy : ev E y = some (.agg b.enc.toArray)) : RD Tryz.prog W n L E ⟨d, .binOp .eql 49 x y T', t, pos, after, g⟩ (.bool (decide (a = b))) := rd_eqS (eqsMb a b) hx hy
end
end Go.Proofs.YtmdeajdaeihniaaGreat.X
/-
  The library's functions over slices that the roster uses, by walks of my own.
-/
namespace Go.Proofs.YtmdeajdaeihniaaGreat.X
open Go Go.RowKit
set_option linter.unusedVariables false
set_option linter.unusedSimpArgs false
/-- slices.Clone: a row in new memory. -/
theorem xf_cloneM {W : World} {L : List Blk} (p : Option Addr) (m c : Nat) (xs : List Value) (hx : xs.length = m * 4) (hr : Rs W L p xs) (h1 : xs.all (·.oneCell') = true) (hm : m ≤ 1000000000) : XF Tryz.prog W 114 #[.slice p m c] L (fun v L' => ∃ q k l, v = .slice q m k ∧ SlO 4 49 (.slice q m k) m xs l ∧ m ≤ k ∧ L' = l ++ L) := by
  refine xf_enter (args := [_]) Tryz.func114 rfl Tryz.ntmps114 rfl ?_
  cases p with
  | none =>
    have h0 := hr.none_nil
    subst h0
    have hm0 : m = 0 := by simp at hx; omega
    subst hm0
    focus
      refine xc_seq ?_
      refine xc_region ?_
      refine xo_rd (rd_assign rfl) rfl ?_
      refine xo_nil ?_
      refine xq_seq ?_
      refine xc_seq ?_
      refine xc_seq ?_
      refine xc_region ?_
      refine xo_rd (rd_move rfl) rfl ?_
      refine xo_rd (rd_eqnilS rfl) rfl ?_
      refine xo_nil ?_
      refine xq_seq ?_
      refine xc_condt rfl ?_
      refine xc_seq ?_
      refine xc_region ?_
      refine xo_rd (rd_assign rfl) rfl ?_
      refine xo_nil ?_
      refine xq_seq ?_
      refine xc_ret ?_
      refine xq_then_ret ?_
    exact xq_ret1 (.inl rfl) Tryz.results114 rfl ⟨none, 0, [], rfl, SlO.nil, Nat.le_refl _, rfl⟩
  | some a =>
    focus
      refine xc_seq ?_
      refine xc_region ?_
      refine xo_rd (rd_assign rfl) rfl ?_
      refine xo_nil ?_
      refine xq_seq ?_
      refine xc_seq ?_
      refine xc_seq ?_
      refine xc_region ?_
      refine xo_rd (rd_move rfl) rfl ?_
      refine xo_rd (rd_eqnilS rfl) rfl ?_
      refine xo_nil ?_
      refine xq_seq ?_
      refine xc_condf rfl ?_
      refine xc_skip ?_
      refine xq_seq ?_
      refine xc_seq ?_
      refine xc_region ?_
      refine xo_ef rfl (ef_slice0 fun r5 => ?_)
      refine xo_rd (rd_move rfl) rfl ?_
    refine xo_ef rfl (ef_append [] L [_] rfl rfl SlO.zero rfl hr.skip hx h1 (by decide) (by omega) (by omega) fun v' l' hO => ?_)
    rw [Nat.zero_add, List.nil_append] at hO
    obtain ⟨q, k, rfl, hO, _⟩ := hO.opn
    focus
      refine xo_rd (rd_assign rfl) rfl ?_
      refine xo_nil ?_
      refine xq_seq ?_
      refine xc_ret ?_
    exact xq_ret1 (.inl rfl) Tryz.results114 rfl ⟨q, k, l', rfl, hO, hO.cap.2, rfl⟩
/-- slices.Delete: one element is taken out. -/
theorem xf_delete {W : World} {R : List Blk} (v : Value) (m i : Nat) (xs : List Value) (l : List Blk) (hO : SlO 4 49 v m xs l) (h1 : xs.all (·.oneCell') = true) (hi : i < m) (hm : m ≤ 1000000000) : XF Tryz.prog W 99 #[v, .int .i64 i, .int .i64 (i + 1)] (l ++ R) (fun v' L' => ∃ q k l', v' = .slice q (m - 1) k ∧ SlO 4 49 (.slice q (m - 1) k) (m - 1) (xs.take (i * 4) ++ xs.drop ((i + 1) * 4)) l' ∧ L' = l' ++ R) := by
  have hlen := hO.len
  obtain ⟨b, rest, cap, rfl, hcap, rfl⟩ := hO.cut (by omega)
  have hsz : (xs ++ rest).toArray.size = cap * 4 := by
    rcases hO with ⟨h, _⟩ | ⟨b', cs, cap', h, hl, _, hs, _⟩
    · cases h
    · simp only [Value.slice.injEq] at h
      simp only [List.cons.injEq, Prod.mk.injEq, Obj.cells.injEq, and_true] at hl
      rw [hl.2, h.2.2]; exact hs
  refine xf_enter (args := [_, _, _]) Tryz.func99 rfl Tryz.ntmps99 rfl ?_
  have hdl : (xs.drop ((i + 1) * 4)).length = (m - (i + 1)) * 4 := by rw [List.length_drop, hlen, Nat.sub_mul]
  have hd1 : (xs.drop ((i + 1) * 4)).all (·.oneCell') = true := List.all_eq_true.2 fun u hu => List.all_eq_true.1 h1 u (List.mem_of_mem_drop hu)
  have hrx : Rs W ((b, .cells (xs ++ rest).toArray 49 (0, 0)) :: R) (some ⟨b, 0, none⟩) xs := fun j u hj => ⟨b, 0, rfl, Cl.pre hj⟩
  have hsrc : Rs W ((b, .cells (xs ++ rest).toArray 49 (0, 0)) :: R) (if cap = i + 1 then some ⟨b, 0, none⟩ else some ⟨b, 0 + (i + 1) * 4, none⟩) (xs.drop ((i + 1) * 4)) := by
    split
    · rw [List.drop_of_length_le (by rw [hlen]; exact Nat.mul_le_mul_right _ (by omega))]; exact Rs.nil
    · exact hrx.drop _
  focus
    refine xc_seq ?_
    refine xc_region ?_
    refine xo_rd (rd_assign rfl) rfl ?_
    refine xo_nil ?_
    refine xq_seq ?_
    refine xc_seq ?_
    refine xc_region ?_
    refine xo_rd (rd_move rfl) rfl ?_
    refine xo_rd (rd_move rfl) rfl ?_
    refine xo_rd (rd_move rfl) rfl ?_
    refine xo_rd (rd_move rfl) rfl ?_
    refine xo_rd (rd_len rfl) rfl ?_
    refine xo_rd (rd_slice3v rfl rfl rfl rfl (by omega) (by omega) (by omega) (by omega)) rfl ?_
    refine xo_nil ?_
    refine xq_seq ?_
    refine xc_seq ?_
    refine xc_seq ?_
    refine xc_region ?_
    refine xo_rd (rd_move rfl) rfl ?_
    refine xo_rd (rd_move rfl) rfl ?_
    refine xo_rd (rd_eql rfl rfl) rfl ?_
    refine xo_nil ?_
    refine xq_seq ?_
    refine xc_dec rfl (fun h1 => (by exfalso; omega)) (fun h1 => ?_)
    refine xc_skip ?_
    refine xq_seq ?_
    refine xc_seq ?_
    refine xc_region ?_
    refine xo_rd (rd_move rfl) rfl ?_
    refine xo_rd (rd_len rfl) rfl ?_
    refine xo_rd (rd_assign rfl) rfl ?_
    refine xo_nil ?_
    refine xq_seq ?_
    refine xc_seq ?_
    refine xc_drawM [0, 0, 3, 0, 0, 24, 36, 127] [0, 0, 3, 0, 0, 24, 36, 127] [] (by kernel_rfl) (by kernel_rfl) (by kernel_rfl) ?_
    refine xm_take 0 (m' := 1) rfl (by kernel_rfl) Sb.a (rd_move rfl) rfl (by kernel_rfl) ?_
    refine xm_take 1 (m' := 3) rfl (by kernel_rfl) Sb.a (rd_move rfl) rfl (by kernel_rfl) ?_
    refine xm_take 2 (m' := 7) rfl (by kernel_rfl) Sb.a (rd_sliceHi rfl rfl (by omega) (by omega)) rfl (by kernel_rfl) ?_
    refine xm_take 3 (m' := 15) rfl (by kernel_rfl) Sb.a (rd_move rfl) rfl (by kernel_rfl) ?_
    refine xm_take 4 (m' := 31) rfl (by kernel_rfl) Sb.a (rd_move rfl) rfl (by kernel_rfl) ?_
    refine xm_take 5 (m' := 63) rfl (by kernel_rfl) Sb.a (rd_sliceEnd rfl rfl (by omega) (by omega)) rfl (by kernel_rfl) ?_
    refine xm_one 6 (m' := 127) rfl (by kernel_rfl) rfl (by kernel_rfl) (ef_appendRoom [] R rfl rfl rfl hsrc hdl hd1 (by omega) hsz (by decide) ?_)
    refine ⟨Sb.a, ?_⟩
    refine xm_take 7 (m' := 255) rfl (by kernel_rfl) Sb.a (rd_assign rfl) rfl (by kernel_rfl) ?_
    refine xm_done (by kernel_rfl) ?_
    refine xq_seq ?_
    refine xc_seq ?_
    refine xc_region ?_
    refine xo_rd (rd_move rfl) rfl ?_
    refine xo_rd (rd_move rfl) rfl ?_
    refine xo_rd (rd_len rfl) rfl ?_
    refine xo_rd (rd_move rfl) rfl ?_
    refine xo_rd (rd_slice rfl rfl rfl (by omega) (by omega) (by omega) (by omega)) rfl ?_
  have hrm : i + (m - (i + 1)) = m - 1 := by omega
  have hrm' : (i : Int).toNat + (m - ((i : Int) + 1).toNat) = m - 1 := by omega
  have hi1 : (i : Int).toNat = i := by omega
  have htk : ((xs ++ rest).take ((i : Int).toNat * 4) ++ xs.drop ((i + 1) * 4)).length = (m - 1) * 4 := by
    rw [List.length_append, hdl, List.length_take, ← hrm, Nat.add_mul]
    simp only [List.length_append, hlen, hi1]
    rw [Nat.min_eq_left (by have : i * 4 ≤ m * 4 := Nat.mul_le_mul_right _ (by omega)
                            omega)]
  refine xo_ef rfl (ef_clear [] R rfl rfl (by omega) (by simp only [List.size_toArray, List.length_append, List.length_drop, List.length_take] at *; omega) (by simp [Value.cells, Value.oneCell']) fun cs' hcs hcs2 => ?_)
  focus
    refine xo_nil ?_
    refine xq_seq ?_
    refine xc_seq ?_
    refine xc_region ?_
    refine xo_rd (rd_move rfl) rfl ?_
    refine xo_rd (rd_assign rfl) rfl ?_
    refine xo_nil ?_
    refine xq_seq ?_
    refine xc_ret ?_
  refine xq_ret1 (.inl rfl) Tryz.results99 rfl ⟨some ⟨b, 0, none⟩, cap, [(b, .cells cs' 49 (0, 0))], by rw [hrm'], .inr ⟨b, cs', cap, rfl, rfl, by omega, ?_, ?_⟩, rfl⟩
  · rw [hcs]; simp only [List.size_toArray, List.length_append, List.length_drop, List.length_take] at *; omega
  · have hz : 0 + (((((i : Int).toNat + (m - ((i : Int) + 1).toNat) : Nat)) : Int)).toNat * 4 = (m - 1) * 4 := by omega
    rw [hz] at hcs2
    rw [hcs2]
    simp only [List.append_assoc]
    rw [← List.append_assoc, List.take_left' htk, hi1, List.take_append_of_le_length (by rw [hlen]; exact Nat.mul_le_mul_right _ (by omega))]
theorem xf_byId {W : World} {L : List Blk} (m : Mb) (q : Nat) (id : Int) (hq : Cl W L q 0 (.int .i64 id)) : XF Tryz.prog W 111 #[.agg m.enc.toArray, .pointer (some ⟨q, 0, none⟩)] L (fun v L' => v = .bool (decide (m.id = id)) ∧ L' = L) := by
  refine xf_enter (args := [_, _]) Tryz.func111 rfl Tryz.ntmps111 rfl ?_
  focus
    refine xc_seq ?_
    refine xc_region ?_
    refine xo_ef rfl (ef_box rfl fun r2 => ?_)
    refine xo_rd (rd_assign rfl) rfl ?_
    refine xo_nil ?_
    refine xq_seq ?_
    refine xc_seq ?_
    refine xc_region ?_
    refine xo_rd (rd_fieldAddr rfl) rfl ?_
    refine xo_rd (rd_load1 rfl (Cl.o0 rfl)) rfl ?_
    refine xo_rd (rd_load1 rfl hq.skip) rfl ?_
    refine xo_rd (rd_eql rfl rfl) rfl ?_
    refine xo_rd (rd_assign rfl) rfl ?_
    refine xo_nil ?_
    refine xq_seq ?_
    refine xc_ret ?_
    exact xq_tail (xq_ret1 (.inl rfl) Tryz.results111 rfl (⟨rfl, rfl⟩))
theorem xf_indexId {W : World} {L : List Blk} (p : Option Addr) (n c : Nat) (ms : List Mb) (q : Nat) (id : Int) (hn : ms.length = n) (hr : Rs W L p (ms.flatMap Mb.enc)) (hq : Cl W L q 0 (.int .i64 id)) (hm : n ≤ 1000000) : XF Tryz.prog W 110 #[.slice p n c, .func (.func 111) #[] #[.pointer (some ⟨q, 0, none⟩)]] L (fun v L' => v = .int .i64 (ixOf (ms.map Mb.id) id) ∧ L' = L) := by
  refine xf_enter (args := [_, _]) Tryz.func110 rfl Tryz.ntmps110 rfl ?_
  focus
    refine xc_seq ?_
    refine xc_region ?_
    refine xo_rd (rd_assign rfl) rfl ?_
    refine xo_nil ?_
    refine xq_seq ?_
    refine xc_seq ?_
    refine xc_seq ?_
    refine xc_region ?_
    refine xo_rd (rd_move rfl) rfl ?_
    refine xo_rd (rd_len rfl) rfl ?_
    refine xo_rd (rd_move rfl) rfl ?_
    refine xo_nil ?_
    refine xq_seq ?_
    refine xc_block ?_
  refine xc_loopI (ι := Nat) (fun k => k ≤ n ∧ ∀ i, (hi : i < k) → (h2 : i < ms.length) → ms[i].id ≠ id) (fun k => n - k) (fun _ => L) (fun k => [(0, .slice p n c), (1, .func (.func 111) #[] #[.pointer (some ⟨q, 0, none⟩)]), (7, .int .i64 n), (8, .int .i64 k)]) 0 ⟨Nat.zero_le _, fun i hi => by omega⟩ rfl (by repeat (first | exact keep_nil | refine keep_cons rfl ?_)) ?_
  rintro k ⟨hk, hno⟩
  focus
    refine xc_seq ?_
    refine xc_region ?_
    refine xo_rd (rd_lss rfl rfl) rfl ?_
    refine xo_nil ?_
    refine xq_seq ?_
    refine xc_seq ?_
    refine xc_dec rfl (fun hk1 => ?_) (fun hk1 => ?_)
    refine xc_skip ?_
    refine xq_seq ?_
    refine xc_seq ?_
    refine xc_block ?_
    refine xc_seq ?_
    refine xc_region ?_
    refine xo_rd (rd_move rfl) rfl ?_
    refine xo_rd (rd_assign rfl) rfl ?_
    refine xo_nil ?_
    refine xq_seq ?_
    refine xc_seq ?_
    refine xc_region ?_
    refine xo_rd (rd_move rfl) rfl ?_
    refine xo_rd (rd_move rfl) rfl ?_
    refine xo_rd (rd_move rfl) rfl ?_
    rotate_left
    refine xc_exit ?_
    refine xq_then_exit ?_
    refine xq_then_exit ?_
    refine xq_block_hit ?_
    refine xq_seq ?_
    refine xc_seq ?_
    refine xc_region ?_
    refine xo_rd (rd_assign rfl) rfl ?_
    refine xo_nil ?_
    refine xq_seq ?_
    refine xc_ret ?_
    rotate_left
  · have hkn : k < ms.length := by omega
    obtain ⟨b, o, rfl, hc⟩ := hr.row Mb.len (by decide) hkn
    focus
      refine xo_rd (rd_indexAddr rfl rfl (by omega) (by omega)) rfl ?_
      refine xo_rd (rd_loadA (vs := ms[k].enc) rfl rfl hc) rfl ?_
      refine xo_ef rfl (ef_callv rfl rfl (XF.mono (xf_byId ms[k] q id hq) ?_))
      rintro v L' ⟨rfl, rfl⟩
      refine xo_nil ?_
      refine xq_seq ?_
      refine xc_dec rfl (fun hz1 => ?_) (fun hz1 => ?_)
      refine xc_seq ?_
      refine xc_region ?_
      refine xo_rd (rd_move rfl) rfl ?_
      refine xo_rd (rd_assign rfl) rfl ?_
      refine xo_nil ?_
      refine xq_seq ?_
      refine xc_ret ?_
      refine xq_block_ret ?_
      refine xq_then_ret ?_
      refine xq_then_ret ?_
      refine xq_block_ret ?_
      refine xq_then_ret ?_
      rotate_left
      refine xc_skip ?_
      refine xq_block ?_
      refine xq_seq ?_
      refine xc_region ?_
      refine xo_rd (rd_addn rfl rfl (by omega) (by omega)) rfl ?_
      refine xo_rd (rd_move rfl) rfl ?_
      refine xo_nil ?_
      rotate_left
    · refine xq_ret1 (.inl rfl) Tryz.results110 rfl ⟨?_, rfl⟩
      rw [ixOf_some (k := k) (by simpa using hkn) (by simpa using hz1) (fun i hi => by simpa using hno i hi (by omega))]
    · refine xq_roundI (k + 1) ⟨by omega, fun i hi h2 => ?_⟩ (by omega) rfl (by repeat (first | exact keep_nil | refine keep_cons rfl ?_))
      by_cases he : i = k
      · subst he; exact hz1
      · exact hno i (by omega) h2
  · refine xq_ret1 (.inl rfl) Tryz.results110 rfl ⟨?_, rfl⟩
    rw [ixOf_none (fun i hi => by simpa using hno i (by simp at hi; omega) (by simpa using hi))]
end Go.Proofs.YtmdeajdaeihniaaGreat.X
/-
  The roster's memory, and its functions, by walks of my own.
-/
namespace Go.Proofs.YtmdeajdaeihniaaGreat.X
open Go Go.RowKit
set_option linter.unusedVariables false
set_option linter.unusedSimpArgs false
/-! ### what the document has -/
def Mb.src (m : Mb) (s : Int) : Bool := m.content == s || m.camera == s
def getId (l : List Mb) (id : Int) : Option Mb := l.find? (fun m => m.id == id)
def getSrc (l : List Mb) (s : Int) : Option Mb := l.find? (fun m => m.src s)
def srcs (l : List Mb) : List Int := l.flatMap fun m => [m.content, m.camera]
def Mb.right (m : Mb) : Prop := ¬(m.id < 0 ∨ m.content = 0 ∨ m.camera = 0 ∨ m.content = m.camera)
instance (m : Mb) : Decidable m.right := by unfold Mb.right; infer_instance
/-- Join's answer. -/
def joinR (most : Int) (l : List Mb) (m : Mb) : Int :=
  if ¬ m.right then 2 else if (getId l m.id).isSome then 132 else if (getSrc l m.content).isSome ∨ (getSrc l m.camera).isSome then 140 else if most ≤ l.length then 131 else 0
def joinL (most : Int) (l : List Mb) (m : Mb) : List Mb := if joinR most l m = 0 then l ++ [m] else l
def leaveR (l : List Mb) (id : Int) : Int := if (getId l id).isSome then 0 else 130
def leaveL (l : List Mb) (id : Int) : List Mb := l.eraseP (fun m => m.id == id)
/-- All are right, and none is twice. -/
structure Fit (most : Int) (l : List Mb) : Prop where
  ids : (l.map Mb.id).Nodup
  src : (srcs l).Nodup
  right : ∀ m, m ∈ l → m.right
  len : (l.length : Int) ≤ most
  most : 0 ≤ most ∧ most ≤ 32
/-! ### its memory -/
structure Ro where
  most : Int
  ms : List Mb
  c : Nat
  mv : Value
  ml : List Blk
  mb : Nat
  mo : Obj
  sz : Nat
def Ro.cells (x : Ro) : List Value := [.int .i64 x.most, x.mv, .map (some x.mb)]
def Ro.blks (x : Ro) : List Blk := (x.c, .cells x.cells.toArray 130 (0, 0)) :: (x.mb, x.mo) :: x.ml
def srcOf (l : List Mb) (s : Int) : Option Value := (getSrc l s).map fun m => .int .i64 m.id
structure Ro.Ok (x : Ro) : Prop where
  o : SlO 4 49 x.mv x.ms.length (x.ms.flatMap Mb.enc) x.ml
  map : MpIs .u32 x.mo (srcOf x.ms) x.sz
  fit : Fit x.most x.ms
theorem Mb.one (l : List Mb) : (l.flatMap Mb.enc).all (·.oneCell') = true := by
  rw [List.all_eq_true]
  intro v hv
  obtain ⟨x, _, hx⟩ := List.mem_flatMap.1 hv
  simp only [Mb.enc, List.mem_cons, List.not_mem_nil, or_false] at hx
  rcases hx with rfl | rfl | rfl | rfl <;> rfl
theorem Ro.blks_app (x : Ro) (L : List Blk) : x.blks ++ L = (x.c, .cells x.cells.toArray 130 (0, 0)) :: (x.mb, x.mo) :: (x.ml ++ L) := by simp [Ro.blks]
theorem ix_cases (l : List Mb) (id : Int) : (ixOf (l.map Mb.id) id = -1 ∧ getId l id = none ∧ leaveL l id = l) ∨ ∃ i, ∃ hi : i < l.length, ixOf (l.map Mb.id) id = i ∧ getId l id = some l[i] ∧ l[i].id = id ∧ leaveL l id = l.eraseIdx i := by
  unfold leaveL getId
  rw [List.eraseP_eq_eraseIdx]
  unfold ixOf
  rw [List.findIdx?_map]
  have e : (fun x : Int => x == id) ∘ Mb.id = fun q : Mb => q.id == id := rfl
  rw [e]
  cases h : l.findIdx? (fun q => q.id == id) with
  | none =>
    refine .inl ⟨rfl, ?_, rfl⟩
    rw [List.find?_eq_none]
    exact fun x hx => by have := List.findIdx?_eq_none_iff.1 h x hx; simp [this]
  | some i =>
    obtain ⟨hi, h1, h2⟩ := List.findIdx?_eq_some_iff_getElem.1 h
    refine .inr ⟨i, hi, rfl, ?_, by simpa using h1, rfl⟩
    rw [List.find?_eq_some_iff_getElem]
    exact ⟨h1, i, hi, rfl, fun j hj => by simpa using h2 j hj⟩
theorem xf_place {W : World} {L : List Blk} (x : Ro) (hx : x.Ok) (id : Int) : XF Tryz.prog W 89 #[.pointer (some ⟨x.c, 0, none⟩), .int .i64 id] (x.blks ++ L) (fun v L' => v = .int .i64 (ixOf (x.ms.map Mb.id) id) ∧ L' = x.blks ++ L) := by
  rw [Ro.blks_app]
  obtain ⟨most, ms, c, mv, ml, mb, mo, sz⟩ := x
  obtain ⟨hO, hm, hf⟩ := hx
  dsimp only [Ro.cells] at *
  obtain ⟨p, k, rfl, hO, hk⟩ := hO.opn
  have hl := hf.len
  have hl2 := hf.most
  refine xf_enter (args := [_, _]) Tryz.func89 rfl Tryz.ntmps89 rfl ?_
  focus
    refine xc_seq ?_
    refine xc_region ?_
    refine xo_ef rfl (ef_box rfl fun r3 => ?_)
    refine xo_rd (rd_assign rfl) rfl ?_
    refine xo_nil ?_
    refine xq_seq ?_
    refine xc_seq ?_
    refine xc_seq ?_
    refine xc_region ?_
    refine xo_rd (rd_move rfl) rfl ?_
    refine xo_rd (rd_eqnil rfl) rfl ?_
    refine xo_nil ?_
    refine xq_seq ?_
    refine xc_condf rfl ?_
    refine xc_skip ?_
    refine xq_seq ?_
    refine xc_seq ?_
    refine xc_region ?_
    refine xo_rd (rd_move rfl) rfl ?_
    refine xo_rd (rd_nilCheck rfl) rfl ?_
    refine xo_rd (rd_fieldAddr rfl) rfl ?_
    refine xo_rd (rd_load1 rfl (Cl.o1 rfl)) rfl ?_
    refine xo_rd (rd_makeFunc rfl rfl) rfl ?_
    refine xo_ef rfl (ef_call rfl (XF.mono (xf_indexId _ _ _ ms r3 id rfl (hO.rs (by intro z hz; simp [hz])) (Cl.o0 rfl) (by omega)) ?_))
    rintro v L' ⟨rfl, rfl⟩
    refine xo_rd (rd_assign rfl) rfl ?_
    refine xo_nil ?_
    refine xq_seq ?_
    refine xc_ret ?_
    exact xq_tail (xq_ret1 (.inl rfl) Tryz.results89 rfl (⟨rfl, rfl⟩))
theorem xf_get {W : World} {L : List Blk} (x : Ro) (hx : x.Ok) (id : Int) : XF Tryz.prog W 55 #[.pointer (some ⟨x.c, 0, none⟩), .int .i64 id] (x.blks ++ L) (fun v L' => v = .tuple #[.agg ((getId x.ms id).getD ⟨0, 0, 0, false⟩).enc.toArray, .bool (getId x.ms id).isSome] ∧ L' = x.blks ++ L) := by
  have hO := hx.o
  have hl := hx.fit.len
  have hl2 := hx.fit.most
  refine xf_enter (args := [_, _]) Tryz.func55 rfl Tryz.ntmps55 rfl ?_
  rcases ix_cases x.ms id with ⟨he, hg, _⟩ | ⟨i, hi, he, hg, _, _⟩
  · have hpl : ∀ L, XF Tryz.prog W 89 #[.pointer (some ⟨x.c, 0, none⟩), .int .i64 id] (x.blks ++ L) (fun v L' => v = .int .i64 (-1) ∧ L' = x.blks ++ L) := fun L => by have := xf_place (W := W) (L := L) x hx id; rw [he] at this; exact this
    rw [hg]
    focus
      refine xc_seq ?_
      refine xc_region ?_
      refine xo_ef rfl (ef_alloc fun r4 => ?_)
      refine xo_rd (rd_assign rfl) rfl ?_
      refine xo_nil ?_
      refine xq_seq ?_
      refine xc_seq ?_
      refine xc_region ?_
      refine xo_rd (rd_move rfl) rfl ?_
      refine xo_rd (rd_move rfl) rfl ?_
      refine xo_ef rfl (ef_call rfl (XF.mono (XF.seg [_] x.blks L (hpl _)) ?_))
      rintro v L' ⟨rfl, rfl⟩
      refine xo_seg [_] x.blks L ?_
      refine xo_rd (rd_assign rfl) rfl ?_
      refine xo_nil ?_
      refine xq_seq ?_
      refine xc_seq ?_
      refine xc_seq ?_
      refine xc_region ?_
      refine xo_rd (rd_move rfl) rfl ?_
      refine xo_rd (rd_lss rfl rfl) rfl ?_
      refine xo_nil ?_
      refine xq_seq ?_
      refine xc_condt rfl ?_
      refine xc_seq ?_
      refine xc_region ?_
      refine xo_rd (rd_build rfl rfl rfl) rfl ?_
      refine xo_ef rfl (ef_storeB [] _ rfl rfl (by first | rfl | assumption) rfl rfl rfl ?_)
      refine xo_rd (rd_assign rfl) rfl ?_
      refine xo_nil ?_
      refine xq_seq ?_
      refine xc_ret ?_
      refine xq_then_ret ?_
    exact xq_retB2 (.inl rfl) Tryz.results55 rfl rfl Kn.o0 rfl (List.sublist_cons_self _ _) ⟨rfl, rfl⟩
  · have hpl : ∀ L, XF Tryz.prog W 89 #[.pointer (some ⟨x.c, 0, none⟩), .int .i64 id] (x.blks ++ L) (fun v L' => v = .int .i64 i ∧ L' = x.blks ++ L) := fun L => by have := xf_place (W := W) (L := L) x hx id; rw [he] at this; exact this
    rw [hg]
    obtain ⟨p, k, hv, hO, hk⟩ := hO.opn
    have hld : Cl W (x.blks ++ L) x.c (0 + 1) (.slice p x.ms.length k) := by rw [Ro.blks_app, ← hv]; exact Cl.o0 rfl
    obtain ⟨b, o, rfl, hc⟩ := (hO.rs (W := W) (L := x.blks ++ L) (by intro z hz; rw [Ro.blks_app]; simp [hz])).row Mb.len (by decide) hi
    focus
      refine xc_seq ?_
      refine xc_region ?_
      refine xo_ef rfl (ef_alloc fun r4 => ?_)
      refine xo_rd (rd_assign rfl) rfl ?_
      refine xo_nil ?_
      refine xq_seq ?_
      refine xc_seq ?_
      refine xc_region ?_
      refine xo_rd (rd_move rfl) rfl ?_
      refine xo_rd (rd_move rfl) rfl ?_
      refine xo_ef rfl (ef_call rfl (XF.mono (XF.seg [_] x.blks L (hpl _)) ?_))
      rintro v L' ⟨rfl, rfl⟩
      refine xo_seg [_] x.blks L ?_
      refine xo_rd (rd_assign rfl) rfl ?_
      refine xo_nil ?_
      refine xq_seq ?_
      refine xc_seq ?_
      refine xc_seq ?_
      refine xc_region ?_
      refine xo_rd (rd_move rfl) rfl ?_
      refine xo_rd (rd_lss rfl rfl) rfl ?_
      refine xo_nil ?_
      refine xq_seq ?_
      refine xc_condf rfl ?_
      refine xc_skip ?_
      refine xq_seq ?_
      refine xc_seq ?_
      refine xc_region ?_
      refine xo_rd (rd_move rfl) rfl ?_
      refine xo_rd (rd_nilCheck rfl) rfl ?_
      refine xo_rd (rd_fieldAddr rfl) rfl ?_
      refine xo_rd (rd_load1 rfl hld.skip) rfl ?_
      refine xo_rd (rd_move rfl) rfl ?_
      refine xo_rd (rd_indexAddr rfl rfl (by omega) (by omega)) rfl ?_
      refine xo_rd (rd_loadA (vs := x.ms[i].enc) rfl rfl (fun j u hj => (hc j u hj).skip)) rfl ?_
      refine xo_ef rfl (ef_storeB [] _ rfl rfl (by first | rfl | assumption) rfl rfl rfl ?_)
      refine xo_rd (rd_assign rfl) rfl ?_
      refine xo_nil ?_
      refine xq_seq ?_
      refine xc_ret ?_
    exact xq_retB2 (.inl rfl) Tryz.results55 rfl rfl Kn.o0 rfl (List.sublist_cons_self _ _) ⟨rfl, rfl⟩
theorem xf_all {W : World} {L : List Blk} (x : Ro) (hx : x.Ok) : XF Tryz.prog W 108 #[.pointer (some ⟨x.c, 0, none⟩)] (x.blks ++ L) (fun v L' => ∃ p k l, v = .slice p x.ms.length k ∧ SlO 4 49 (.slice p x.ms.length k) x.ms.length (x.ms.flatMap Mb.enc) l ∧ x.ms.length ≤ k ∧ L' = l ++ (x.blks ++ L)) := by
  have hl := hx.fit.len
  have hl2 := hx.fit.most
  obtain ⟨p, k, hv, hO, hk⟩ := hx.o.opn
  have hld : Cl W (x.blks ++ L) x.c (0 + 1) (.slice p x.ms.length k) := by rw [Ro.blks_app, ← hv]; exact Cl.o0 rfl
  refine xf_enter (args := [_]) Tryz.func108 rfl Tryz.ntmps108 rfl ?_
  focus
    refine xc_seq ?_
    refine xc_region ?_
    refine xo_rd (rd_assign rfl) rfl ?_
    refine xo_nil ?_
    refine xq_seq ?_
    refine xc_seq ?_
    refine xc_seq ?_
    refine xc_region ?_
    refine xo_rd (rd_move rfl) rfl ?_
    refine xo_rd (rd_eqnil rfl) rfl ?_
    refine xo_nil ?_
    refine xq_seq ?_
    refine xc_condf rfl ?_
    refine xc_skip ?_
    refine xq_seq ?_
    refine xc_seq ?_
    refine xc_region ?_
    refine xo_rd (rd_move rfl) rfl ?_
    refine xo_rd (rd_nilCheck rfl) rfl ?_
    refine xo_rd (rd_fieldAddr rfl) rfl ?_
    refine xo_rd (rd_load1 rfl hld) rfl ?_
    refine xo_ef rfl (ef_call rfl (XF.mono (xf_cloneM _ _ _ _ (by rw [flat_length Mb.enc Mb.len]) (hO.rs fun z hz => by rw [Ro.blks_app]; simp [hz]) (Mb.one _) (by omega)) ?_))
    rintro v L' ⟨qb, cb, lb, rfl, hqb, hcb, rfl⟩
    refine xo_rd (rd_assign rfl) rfl ?_
    refine xo_nil ?_
    refine xq_seq ?_
    refine xc_ret ?_
  exact xq_ret1 (.inl rfl) Tryz.results108 rfl ⟨qb, cb, lb, rfl, hqb, hcb, rfl⟩
theorem xf_new_bad {W : World} {L : List Blk} (most : Int) (hs : most < 0 ∨ 32 < most) : XF Tryz.prog W 23 #[.int .i64 most] L (fun v L' => v = .tuple #[.pointer none, .int .i64 2] ∧ L' = L) := by
  refine xf_enter (args := [_]) Tryz.func23 rfl Tryz.ntmps23 rfl ?_
  focus
    refine xc_seq ?_
    refine xc_region ?_
    refine xo_rd (rd_assign rfl) rfl ?_
    refine xo_rd (rd_assign rfl) rfl ?_
    refine xo_nil ?_
    refine xq_seq ?_
    refine xc_seq ?_
    refine xc_seq ?_
    refine xc_region ?_
    refine xo_rd (rd_move rfl) rfl ?_
    refine xo_rd (rd_lss rfl rfl) rfl ?_
    refine xo_rd (rd_move rfl) rfl ?_
    refine xo_dec 6 rfl (fun h1 => ?_) (fun h1 => ?_)
    refine xo_gskip rfl rfl rfl rfl ?_
    refine xo_gskip rfl rfl rfl rfl ?_
    refine xo_rd (rd_pickt rfl rfl) rfl ?_
    refine xo_nil ?_
    refine xq_seq ?_
    refine xc_condt rfl ?_
    refine xc_seq ?_
    refine xc_region ?_
    refine xo_rd (rd_assign rfl) rfl ?_
    refine xo_rd (rd_assign rfl) rfl ?_
    refine xo_nil ?_
    refine xq_seq ?_
    refine xc_ret ?_
    refine xq_then_ret ?_
    exact xq_ret2 (.inl rfl) Tryz.results23 rfl rfl (⟨rfl, rfl⟩)
    refine xo_grd rfl rfl (rd_move rfl) rfl ?_
    refine xo_grd rfl rfl (rd_gtr rfl rfl) rfl ?_
    refine xo_rd (rd_pickf rfl rfl) rfl ?_
    refine xo_nil ?_
    refine xq_seq ?_
    refine xc_dec rfl (fun h2 => ?_) (fun h2 => (by exfalso; omega))
    refine xc_seq ?_
    refine xc_region ?_
    refine xo_rd (rd_assign rfl) rfl ?_
    refine xo_rd (rd_assign rfl) rfl ?_
    refine xo_nil ?_
    refine xq_seq ?_
    refine xc_ret ?_
    refine xq_then_ret ?_
    exact xq_ret2 (.inl rfl) Tryz.results23 rfl rfl (⟨rfl, rfl⟩)
theorem xf_new {W : World} {L : List Blk} (most : Int) (hs : 0 ≤ most ∧ most ≤ 32) : XF Tryz.prog W 23 #[.int .i64 most] L (fun v L' => ∃ x : Ro, x.Ok ∧ v = .tuple #[.pointer (some ⟨x.c, 0, none⟩), .int .i64 0] ∧ x.most = most ∧ x.ms = [] ∧ L' = x.blks ++ L) := by
  refine xf_enter (args := [_]) Tryz.func23 rfl Tryz.ntmps23 rfl ?_
  focus
    refine xc_seq ?_
    refine xc_region ?_
    refine xo_rd (rd_assign rfl) rfl ?_
    refine xo_rd (rd_assign rfl) rfl ?_
    refine xo_nil ?_
    refine xq_seq ?_
    refine xc_seq ?_
    refine xc_seq ?_
    refine xc_region ?_
    refine xo_rd (rd_move rfl) rfl ?_
    refine xo_rd (rd_lss rfl rfl) rfl ?_
    refine xo_rd (rd_move rfl) rfl ?_
    refine xo_dec 6 rfl (fun h1 => (by exfalso; omega)) (fun h1 => ?_)
    refine xo_grd rfl rfl (rd_move rfl) rfl ?_
    refine xo_grd rfl rfl (rd_gtr rfl rfl) rfl ?_
    refine xo_rd (rd_pickf rfl rfl) rfl ?_
    refine xo_nil ?_
    refine xq_seq ?_
    refine xc_dec rfl (fun h2 => (by exfalso; omega)) (fun h2 => ?_)
    refine xc_skip ?_
    refine xq_seq ?_
    refine xc_seq ?_
    refine xc_region ?_
    refine xo_rd (rd_move rfl) rfl ?_
    refine xo_ef rfl (ef_makeMap fun r11 => ?_)
    refine xo_rd (rd_build rfl rfl rfl) rfl ?_
    refine xo_ef rfl (ef_box rfl fun r13 => ?_)
    refine xo_rd (rd_assign rfl) rfl ?_
    refine xo_rd (rd_assign rfl) rfl ?_
    refine xo_nil ?_
    refine xq_seq ?_
    refine xc_ret ?_
  exact xq_ret2 (.inl rfl) Tryz.results23 rfl rfl ⟨⟨most, [], r13, .slice none 0 0, [], r11, .map #[] 0, 0⟩, ⟨SlO.nil, MpIs.empty, List.nodup_nil, List.nodup_nil, (fun _ h => by cases h), hs.1, hs⟩, rfl, rfl, rfl, rfl⟩
end Go.Proofs.YtmdeajdaeihniaaGreat.X
