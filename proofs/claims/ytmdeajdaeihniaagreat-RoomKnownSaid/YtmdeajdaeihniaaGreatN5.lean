/-
  Texts of my own, put together: walks and laws for this seat. No condition.
-/
import Derived.Test.YtmdeajdaeihniaaGreatN4
import Derived.Test.YtmdeajdaeihniaaGreatN3
/-
  Chapter 13: the reference's floor: grants, ends, what is asked: walks of my own.
-/
namespace Go.Proofs.YtmdeajdaeihniaaGreat.X
open Go Go.RowKit
set_option linter.unusedVariables false
set_option linter.unusedSimpArgs false
theorem rfE_len (bound sil : Int) (mp : Option Addr) (mn mc : Nat) (held : Bool) (no who at' heard : Int) (pend : Bool) (wp : Option Addr) (wn wc : Nat) (gp : Option Addr) (gn gc : Nat) : (rfE bound sil mp mn mc held no who at' heard pend wp wn wc gp gn gc).length = 11 := rfl
theorem gEnc_one (gs : List (Int × Int × Int)) : (gs.flatMap gEnc).all (·.oneCell') = true := by
  rw [List.all_flatMap, List.all_eq_true]; intro g _; rfl
set_option maxHeartbeats 800000 in
theorem xf_rgrant {W : World} {L : List Blk} (L0 : List Blk) (hs : ∀ z, z ∈ L0 → z ∈ L) (f : Rf) (hf : f.At W L0) (w now : Int) (hg : f.a.gs.length < 1000000) : XF Tryz.prog W 107 #[.agg f.enc.toArray, .int .u32 w, .int .u64 now] L (fun v L' => ∃ y N, v = .agg (Rf.enc y).toArray ∧ y.a = grantF f.a w now ∧ y.At W (N ++ L0) ∧ L' = N ++ L) := by
  obtain ⟨⟨bound, sil, ms, held, no, who, at', heard, pend, wt, gs⟩, mp, mc, wp, wc, gp, gc⟩ := f
  obtain ⟨hm0, hw0, hgs0, hmc, hml, hwl, hgl⟩ := hf
  have hm := hm0.mono hs
  have hw := hw0.mono hs
  have hgs := hgs0.mono hs
  dsimp only at hm0 hw0 hgs0 hm hw hgs hmc hml hwl hgl hg
  unfold Rf.enc
  dsimp only
  refine xf_enter (args := [_, _, _]) Tryz.func107 rfl Tryz.ntmps107 rfl ?_
  focus
    refine xc_seq ?_
    refine xc_region ?_
    refine xo_ef rfl (ef_box rfl fun r3 => ?_)
    refine xo_ef rfl (ef_alloc fun r6 => ?_)
    refine xo_nil ?_
    refine xq_seq ?_
  focus
    refine xc_seq ?_
    refine xc_region ?_
    refine xo_rd (rd_fieldAddr rfl) rfl ?_
    refine xo_rd (rd_load1 rfl (Cl.o1 rfl)) rfl ?_
    refine xo_rd (rd_len rfl) rfl ?_
    refine xo_rd (rd_convn rfl (by omega) (by omega)) rfl ?_
    refine xo_rd (rd_addn rfl rfl (by omega) (by omega)) rfl ?_
    refine xo_rd (rd_move rfl) rfl ?_
    refine xo_rd (rd_move rfl) rfl ?_
    refine xo_rd (rd_cast (v' := .agg (gEnc ((gs.length : Int) + 1, w, now)).toArray) (rd_build (T := 38) rfl rfl rfl) (by kernel_rfl)) rfl ?_
    refine xo_ef rfl (ef_alloc fun r7 => ?_)
    refine xo_ef rfl (ef_storeB [] _ rfl rfl (by first | rfl | assumption) rfl rfl rfl ?_)
    refine xo_nil ?_
    refine xq_seq ?_
    refine xc_seq ?_
    refine xc_region ?_
    refine xo_rd (rd_assign rfl) rfl ?_
    refine xo_nil ?_
    refine xq_seq ?_
    refine xc_seq ?_
    refine xc_region ?_
    refine xo_rd (rd_move rfl) rfl ?_
    refine xo_rd (rd_fieldAddr rfl) rfl ?_
    refine xo_rd (rd_load1 rfl (Cl.o2 rfl)) rfl ?_
  focus
    refine xo_ef rfl (ef_appendQS [_, _, _] _ [] (news := gs.flatMap gEnc) rfl rfl SlQ.nil rfl (hgs.mono (by intro z hz; simp [hz])) (flat_length gEnc gEnc_len _) (gEnc_one gs) (by decide) (by omega) (by omega) fun gp1 gc1 gl1 hO1 hk1 => ?_)
    refine xo_rd (rd_assign rfl) rfl ?_
    refine xo_nil ?_
    refine xq_seq ?_
    refine xc_seq ?_
    refine xc_region ?_
    refine xo_rd (rd_move rfl) rfl ?_
    refine xo_rd (rd_loadB rfl Kn.o0 (by rfl)) rfl ?_
  rw [List.nil_append] at hO1
  rw [Nat.zero_add gs.length] at hO1 hk1 ⊢
  focus
    refine xo_ef rfl (ef_sliceA (vs := gEnc ((gs.length : Int) + 1, w, now)) rfl rfl (by rw [gEnc_len]; decide) (by rw [gEnc_len]; decide) fun r23 => ?_)
    refine xo_ef rfl (ef_appendQS [_, _, _, _] L gl1 (news := gEnc ((gs.length : Int) + 1, w, now)) rfl rfl hO1 rfl (Rs.fresh (List.Mem.head _)) rfl rfl (by decide) (by omega) (by omega) fun gp2 gc2 gl2 hO2 hk2 => ?_)
    refine xo_rd (rd_fieldAddr rfl) rfl ?_
    refine xo_ef rfl (ef_store1 [_, _, _] _ rfl rfl (by first | rfl | assumption) rfl rfl rfl ?_)
    refine xo_nil ?_
    refine xq_seq ?_
    refine xc_seq ?_
    refine xc_region ?_
    refine xo_rd (rd_fieldAddr rfl) rfl ?_
    refine xo_ef rfl (ef_store1 [_, _, _] _ rfl rfl (by first | rfl | assumption) rfl rfl rfl ?_)
    refine xo_nil ?_
    refine xq_seq ?_
    refine xc_seq ?_
    refine xc_region ?_
    refine xo_rd (rd_loadB rfl Kn.o1 (by rfl)) rfl ?_
    refine xo_rd (rd_fieldAddr rfl) rfl ?_
    refine xo_ef rfl (ef_storeW [_, _, _] _ 4 (vs := gEnc ((gs.length : Int) + 1, w, now)) (cs := ((rfE bound sil mp ms.length mc held no who at' heard pend wp wt.length wc gp gs.length gc).set (0 + 10) (.slice gp2 (gs.length + 1) gc2)).set (0 + 3) (.bool true)) (ws := rfE bound sil mp ms.length mc true ((gs.length : Int) + 1) w now heard pend wp wt.length wc gp2 (gs.length + 1) gc2) rfl rfl rfl rfl rfl (by rw [List.length_set, List.length_set, rfE_len, gEnc_len]; decide) (by kernel_rfl) ?_)
    refine xo_nil ?_
    refine xq_seq ?_
    refine xc_seq ?_
    refine xc_region ?_
    refine xo_rd (rd_move rfl) rfl ?_
    refine xo_rd (rd_fieldAddr rfl) rfl ?_
    refine xo_ef rfl (ef_store1 [_, _, _] _ rfl rfl (by first | rfl | assumption) rfl rfl rfl ?_)
    refine xo_nil ?_
    refine xq_seq ?_
    refine xc_seq ?_
    refine xc_region ?_
    refine xo_rd (rd_fieldAddr rfl) rfl ?_
    refine xo_ef rfl (ef_store1 [_, _, _] _ rfl rfl (by first | rfl | assumption) rfl rfl rfl ?_)
    refine xo_nil ?_
    refine xq_seq ?_
    refine xc_seq ?_
    refine xc_region ?_
    refine xo_rd (rd_loadB rfl Kn.o3 (by rfl)) rfl ?_
    refine xo_ef rfl (ef_storeB [_, _] _ rfl rfl (by first | rfl | assumption) rfl rfl rfl ?_)
    refine xo_nil ?_
    refine xq_seq ?_
    refine xc_ret ?_
  exact xq_retB (.inl rfl) Tryz.results107 rfl (.inr (List.mem_append_right [_, _] List.mem_cons_self)) rfl (List.sublist_append_right [_, _, _, _] _) ⟨⟨grantF ⟨bound, sil, ms, held, no, who, at', heard, pend, wt, gs⟩ w now, mp, mc, wp, wc, gp2, gc2⟩, gl2, by simp only [grantF, List.length_append, List.length_singleton]; rfl, rfl, ⟨hm0.mono (by intro z hz; simp [hz]), hw0.mono (by intro z hz; simp [hz]), by dsimp only [grantF]; rw [List.flatMap_append, List.flatMap_singleton]; exact hO2.rs (by intro z hz; simp [hz]), hmc, hml, hwl, by dsimp only [grantF]; rw [List.length_append]; exact hg⟩, rfl⟩
set_option maxHeartbeats 800000 in
theorem xf_rend {W : World} {L : List Blk} (L0 : List Blk) (hs : ∀ z, z ∈ L0 → z ∈ L) (f : Rf) (hf : f.At W L0) (now : Int) (hg : f.a.gs.length < 1000000) : XF Tryz.prog W 77 #[.agg f.enc.toArray, .int .u64 now] L (fun v L' => ∃ y N, v = .agg (Rf.enc y).toArray ∧ y.a = endF f.a now ∧ y.At W (N ++ L0) ∧ L' = N ++ L) := by
  obtain ⟨⟨bound, sil, ms, held, no, who, at', heard, pend, wt, gs⟩, mp, mc, wp, wc, gp, gc⟩ := f
  obtain ⟨hm0, hw0, hgs0, hmc, hml, hwl, hgl⟩ := hf
  have hm := hm0.mono hs
  have hw := hw0.mono hs
  have hgs := hgs0.mono hs
  dsimp only at hm0 hw0 hgs0 hm hw hgs hmc hml hwl hgl hg
  unfold Rf.enc
  dsimp only
  refine xf_enter (args := [_, _]) Tryz.func77 rfl Tryz.ntmps77 rfl ?_
  cases wt with
  | nil =>
    focus
      refine xc_seq ?_
      refine xc_region ?_
      refine xo_ef rfl (ef_box rfl fun r2 => ?_)
      refine xo_ef rfl (ef_alloc fun r4 => ?_)
      refine xo_nil ?_
      refine xq_seq ?_
      refine xc_seq ?_
      refine xc_region ?_
      refine xo_rd (rd_fieldAddr rfl) rfl ?_
      refine xo_ef rfl (ef_store1 [_] _ rfl rfl (by first | rfl | assumption) rfl rfl rfl ?_)
      refine xo_nil ?_
      refine xq_seq ?_
      refine xc_seq ?_
      refine xc_region ?_
      refine xo_rd (rd_cast (v' := .agg (gEnc (0, 0, 0)).toArray) (rd_build (T := 38) rfl rfl rfl) (by kernel_rfl)) rfl ?_
      refine xo_rd (rd_fieldAddr rfl) rfl ?_
      refine xo_ef rfl (ef_storeW [_] _ 4 (vs := gEnc (0, 0, 0)) (cs := (rfE bound sil mp ms.length mc held no who at' heard pend wp 0 wc gp gs.length gc).set (0 + 3) (.bool false)) (ws := rfE bound sil mp ms.length mc false 0 0 0 heard pend wp 0 wc gp gs.length gc) rfl rfl rfl rfl rfl (by rw [List.length_set, rfE_len, gEnc_len]; decide) (by kernel_rfl) ?_)
      refine xo_nil ?_
      refine xq_seq ?_
      refine xc_seq ?_
      refine xc_region ?_
      refine xo_rd (rd_fieldAddr rfl) rfl ?_
      refine xo_ef rfl (ef_store1 [_] _ rfl rfl (by first | rfl | assumption) rfl rfl rfl ?_)
      refine xo_nil ?_
      refine xq_seq ?_
      refine xc_seq ?_
      refine xc_region ?_
      refine xo_rd (rd_fieldAddr rfl) rfl ?_
      refine xo_ef rfl (ef_store1 [_] _ rfl rfl (by first | rfl | assumption) rfl rfl rfl ?_)
      refine xo_nil ?_
      refine xq_seq ?_
      refine xc_seq ?_
      refine xc_seq ?_
      refine xc_region ?_
      refine xo_rd (rd_fieldAddr rfl) rfl ?_
      refine xo_rd (rd_load1 rfl (Cl.o1 rfl)) rfl ?_
      refine xo_rd (rd_len rfl) rfl ?_
      refine xo_rd (rd_eql rfl rfl) rfl ?_
      refine xo_nil ?_
      refine xq_seq ?_
      refine xc_condt rfl ?_
      refine xc_seq ?_
      refine xc_region ?_
      refine xo_rd (rd_loadB rfl Kn.o1 (by rfl)) rfl ?_
      refine xo_ef rfl (ef_storeB [] _ rfl rfl (by first | rfl | assumption) rfl rfl rfl ?_)
      refine xo_nil ?_
      refine xq_seq ?_
      refine xc_ret ?_
      refine xq_then_ret ?_
    exact xq_retB (.inl rfl) Tryz.results77 rfl Kn.o0 rfl (List.sublist_append_right [_, _] _) ⟨⟨freeF ⟨bound, sil, ms, held, no, who, at', heard, pend, [], gs⟩ [], mp, mc, wp, wc, gp, gc⟩, [], rfl, rfl, ⟨hm0, hw0, hgs0, hmc, hml, hwl, hgl⟩, rfl⟩
  | cons w wt =>
    rw [List.length_cons] at hwl
    obtain ⟨b, o, hpb, hcb⟩ := hw.int (i := 0) (Nat.succ_pos _)
    rw [List.getElem_cons_zero] at hcb
    subst hpb
    have hcb2 : ∀ L', (∀ z, z ∈ L → z ∈ L') → Cl W L' b (o + (0 : Int).toNat * 1) (.int .u32 w) := fun L' h => hcb.mono h
    have h0 : 0 < (w :: wt).length := Nat.succ_pos _
    focus
      refine xc_seq ?_
      refine xc_region ?_
      refine xo_ef rfl (ef_box rfl fun r2 => ?_)
      refine xo_ef rfl (ef_alloc fun r4 => ?_)
      refine xo_nil ?_
      refine xq_seq ?_
      refine xc_seq ?_
      refine xc_region ?_
      refine xo_rd (rd_fieldAddr rfl) rfl ?_
      refine xo_ef rfl (ef_store1 [_] _ rfl rfl (by first | rfl | assumption) rfl rfl rfl ?_)
      refine xo_nil ?_
      refine xq_seq ?_
      refine xc_seq ?_
      refine xc_region ?_
      refine xo_rd (rd_cast (v' := .agg (gEnc (0, 0, 0)).toArray) (rd_build (T := 38) rfl rfl rfl) (by kernel_rfl)) rfl ?_
      refine xo_rd (rd_fieldAddr rfl) rfl ?_
      refine xo_ef rfl (ef_storeW [_] _ 4 (vs := gEnc (0, 0, 0)) (cs := (rfE bound sil mp ms.length mc held no who at' heard pend (some ⟨b, o, none⟩) (w :: wt).length wc gp gs.length gc).set (0 + 3) (.bool false)) (ws := rfE bound sil mp ms.length mc false 0 0 0 heard pend (some ⟨b, o, none⟩) (w :: wt).length wc gp gs.length gc) rfl rfl rfl rfl rfl (by rw [List.length_set, rfE_len, gEnc_len]; decide) (by kernel_rfl) ?_)
      refine xo_nil ?_
      refine xq_seq ?_
      refine xc_seq ?_
      refine xc_region ?_
      refine xo_rd (rd_fieldAddr rfl) rfl ?_
      refine xo_ef rfl (ef_store1 [_] _ rfl rfl (by first | rfl | assumption) rfl rfl rfl ?_)
      refine xo_nil ?_
      refine xq_seq ?_
      refine xc_seq ?_
      refine xc_region ?_
      refine xo_rd (rd_fieldAddr rfl) rfl ?_
      refine xo_ef rfl (ef_store1 [_] _ rfl rfl (by first | rfl | assumption) rfl rfl rfl ?_)
      refine xo_nil ?_
      refine xq_seq ?_
      refine xc_seq ?_
      refine xc_seq ?_
      refine xc_region ?_
      refine xo_rd (rd_fieldAddr rfl) rfl ?_
      refine xo_rd (rd_load1 rfl (Cl.o1 rfl)) rfl ?_
      refine xo_rd (rd_len rfl) rfl ?_
      refine xo_rd (rd_eql rfl rfl) rfl ?_
      refine xo_nil ?_
      refine xq_seq ?_
      refine xc_condf rfl ?_
      refine xc_skip ?_
      refine xq_seq ?_
      refine xc_seq ?_
      refine xc_region ?_
      refine xo_rd (rd_fieldAddr rfl) rfl ?_
      refine xo_rd (rd_load1 rfl (Cl.o1 rfl)) rfl ?_
      refine xo_rd (rd_indexAddr rfl rfl (by omega) (by omega)) rfl ?_
    have hgr := fun q kk (lb : List Blk) (hO : SlQ 1 36 (.slice q ((w :: wt).eraseIdx 0).length kk) ((w :: wt).eraseIdx 0).length (ints .u32 ((w :: wt).eraseIdx 0)) lb) L2 (hs2 : ∀ z, z ∈ lb ++ L0 → z ∈ L2) => xf_rgrant (W := W) (L := L2) (lb ++ L0) hs2 ⟨freeF ⟨bound, sil, ms, held, no, who, at', heard, pend, w :: wt, gs⟩ wt, mp, mc, q, kk, gp, gc⟩ ⟨hm0.mono (by intro z hz; simp [hz]), hO.rs (by intro z hz; simp [hz]), hgs0.mono (by intro z hz; simp [hz]), hmc, hml, by dsimp only [freeF]; omega, hgl⟩ w now hg
    have hs2 : ∀ lb : List Blk, ∀ z, z ∈ lb ++ L0 → z ∈ lb ++ L := fun lb z hz => (List.mem_append.1 hz).elim (fun h => List.mem_append_left _ h) (fun h => List.mem_append_right _ (hs z h))
    focus
      refine xo_rd (rd_load1 rfl (hcb2 _ (by intro z hz; simp [hz]))) rfl ?_
      refine xo_rd (rd_assign rfl) rfl ?_
      refine xo_nil ?_
      refine xq_seq ?_
      refine xc_seq ?_
      refine xc_region ?_
      refine xo_rd (rd_fieldAddr rfl) rfl ?_
      refine xo_rd (rd_load1 rfl (Cl.o1 rfl)) rfl ?_
      refine xo_ef rfl (ef_call rfl (XF.mono (xf_without (some ⟨b, o, none⟩) (w :: wt).length wc (w :: wt) rfl (hw.mono (by intro z hz; simp [hz])) (by rw [List.length_cons]; omega) 0) ?_))
      rintro v L' ⟨q, kk, lb, rfl, hO, rfl⟩
      refine xo_seg [_, _] lb _ ?_
      refine xo_rd (rd_fieldAddr rfl) rfl ?_
      refine xo_ef rfl (ef_store1 [_] _ rfl rfl (by first | rfl | assumption) rfl rfl rfl ?_)
      refine xo_nil ?_
      refine xq_seq ?_
      refine xc_seq ?_
      refine xc_region ?_
      refine xo_rd (rd_loadB rfl Kn.o1 (by rfl)) rfl ?_
      refine xo_rd (rd_move rfl) rfl ?_
      refine xo_rd (rd_move rfl) rfl ?_
      refine xo_ef rfl (ef_call rfl (XF.mono (hgr q kk lb hO _ (fun z hz => List.mem_append_right [_, _] (hs2 lb z hz))) ?_))
      rintro v L' ⟨y, N, rfl, hya, hyat, rfl⟩
      refine xo_seg [_, _] N _ ?_
      refine xo_ef rfl (ef_storeB [] _ rfl rfl (by first | rfl | assumption) rfl rfl rfl ?_)
      refine xo_nil ?_
      refine xq_seq ?_
      refine xc_ret ?_
    exact xq_retB (.inl rfl) Tryz.results77 rfl Kn.o0 rfl (List.sublist_append_right [_, _] _) ⟨y, N ++ lb, rfl, hya, by rw [List.append_assoc]; exact hyat, by rw [List.append_assoc]⟩
end Go.Proofs.YtmdeajdaeihniaaGreat.X
/-
  Chapter 13: the reference's floor: who joins: a walk of my own.
-/
namespace Go.Proofs.YtmdeajdaeihniaaGreat.X
open Go Go.RowKit
set_option linter.unusedVariables false
set_option linter.unusedSimpArgs false
theorem flat_setR {α : Type} {enc : α → List Value} {s : Nat} (hs : ∀ x, (enc x).length = s) : ∀ (l : List α) (i : Nat) (z : α), i < l.length → (l.set i z).flatMap enc = (l.flatMap enc).take (i * s) ++ enc z ++ (l.flatMap enc).drop ((i + 1) * s)
  | [], i, z, h => by simp at h
  | x :: r, 0, z, h => by
    rw [List.set_cons_zero, List.flatMap_cons, List.flatMap_cons, Nat.zero_mul, List.take_zero, List.nil_append, Nat.zero_add, Nat.one_mul, List.drop_left' (hs x)]
  | x :: r, i + 1, z, h => by
    rw [List.set_cons_succ, List.flatMap_cons, List.flatMap_cons, flat_setR hs r i z (by simpa using h)]
    have e1 : (i + 1) * s = (enc x).length + i * s := by rw [hs, Nat.add_mul, Nat.one_mul]; omega
    have e2 : (i + 1 + 1) * s = (enc x).length + (i + 1) * s := by rw [hs, Nat.add_mul (i + 1), Nat.one_mul]; omega
    rw [e2, ← List.drop_drop, List.drop_left, e1, List.take_length_add_append]
    simp only [List.append_assoc]
theorem flat_drop {α : Type} {enc : α → List Value} {s : Nat} (hs : ∀ x, (enc x).length = s) : ∀ (l : List α) (i : Nat), (l.drop i).flatMap enc = (l.flatMap enc).drop (i * s)
  | l, 0 => by simp
  | [], i + 1 => by simp
  | x :: r, i + 1 => by
    have e1 : (i + 1) * s = (enc x).length + i * s := by rw [hs, Nat.add_mul, Nat.one_mul]; omega
    rw [List.drop_succ_cons, flat_drop hs r i, List.flatMap_cons, e1, ← List.drop_drop, List.drop_left]
theorem flat_take {α : Type} {enc : α → List Value} {s : Nat} (hs : ∀ x, (enc x).length = s) : ∀ (l : List α) (i : Nat), (l.take i).flatMap enc = (l.flatMap enc).take (i * s)
  | l, 0 => by simp
  | [], i + 1 => by simp
  | x :: r, i + 1 => by
    have e1 : (i + 1) * s = (enc x).length + i * s := by rw [hs, Nat.add_mul, Nat.one_mul]; omega
    rw [List.take_succ_cons, List.flatMap_cons, flat_take hs r i, List.flatMap_cons, e1, List.take_length_add_append]
theorem isM_ix {l : List (Int × Bool)} {w : Int} (h : isM l w = true) : 0 ≤ ixOf (l.map (·.1)) w := mem_ixOf (isM_mem.1 h)
theorem notM_ix {l : List (Int × Bool)} {w : Int} (h : isM l w = false) : ixOf (l.map (·.1)) w < 0 := by
  by_cases h1 : ixOf (l.map (·.1)) w < 0
  · exact h1
  · rw [isM_mem.2 (ixOf_mem (by omega))] at h; cases h
/-- A member put in at a place. -/
def insAt (l : List (Int × Bool)) (e : Int × Bool) (i : Nat) : List (Int × Bool) := l.take i ++ e :: l.drop i
theorem insAt_len (l : List (Int × Bool)) (e : Int × Bool) (i : Nat) : (insAt l e i).length = l.length + 1 := by
  unfold insAt
  rw [List.length_append, List.length_cons, List.length_take, List.length_drop]; omega
theorem insAt_self (l : List (Int × Bool)) (e : Int × Bool) (i : Nat) (hi : i ≤ l.length) : (insAt l e i)[i]? = some e := by
  unfold insAt
  rw [List.getElem?_append_right (by rw [List.length_take]; omega), List.length_take, Nat.min_eq_left hi, Nat.sub_self]; rfl
theorem insAt_prev (l : List (Int × Bool)) (e : Int × Bool) (i : Nat) (hi : i < l.length) : (insAt l e (i + 1))[i]? = l[i]? := by
  unfold insAt
  rw [List.getElem?_append_left (by rw [List.length_take]; omega), List.getElem?_take, if_pos (Nat.lt_succ_self _)]
theorem insAt_swap (l : List (Int × Bool)) (e x : Int × Bool) (i : Nat) (hi : i < l.length) (hx : l[i]? = some x) : ((insAt l e (i + 1)).set i e).set (i + 1) x = insAt l e i := by
  have hxx : l[i] = x := by rw [List.getElem?_eq_getElem hi] at hx; exact Option.some.inj hx
  apply List.ext_getElem?
  intro j
  unfold insAt
  rw [List.getElem?_set, List.getElem?_set]
  have hl : (List.take (i + 1) l ++ e :: List.drop (i + 1) l).length = l.length + 1 := insAt_len l e (i + 1)
  rw [List.length_set, hl]
  rcases Nat.lt_trichotomy j i with h | h | h
  · rw [if_neg (by omega), if_neg (by omega), List.getElem?_append_left (by rw [List.length_take]; omega), List.getElem?_append_left (by rw [List.length_take]; omega), List.getElem?_take, List.getElem?_take, if_pos (by omega), if_pos h]
  · subst h
    rw [if_neg (by omega), if_pos rfl, if_pos (by omega), List.getElem?_append_right (by rw [List.length_take]; omega), List.length_take, Nat.min_eq_left (by omega), Nat.sub_self]; rfl
  · rw [List.getElem?_append_right (by rw [List.length_take]; omega) (l₁ := List.take i l), List.length_take, Nat.min_eq_left (by omega)]
    by_cases h2 : i + 1 = j
    · subst h2
      rw [if_pos rfl, if_pos (by omega), Nat.add_sub_cancel_left, List.getElem?_cons_succ, List.drop_eq_getElem_cons hi, hxx]; rfl
    · rw [if_neg h2, if_neg (by omega), List.getElem?_append_right (by rw [List.length_take]; omega), List.length_take, Nat.min_eq_left (by omega)]
      obtain ⟨d, rfl⟩ : ∃ d, j = i + 2 + d := ⟨j - (i + 2), by omega⟩
      have e1 : i + 2 + d - (i + 1) = d + 1 := by omega
      have e2 : i + 2 + d - i = d + 1 + 1 := by omega
      rw [e1, e2, List.getElem?_cons_succ, List.getElem?_cons_succ, List.getElem?_drop, List.getElem?_drop]
      congr 1; omega
theorem insM_at (w : Int) (m : Bool) : ∀ (l : List (Int × Bool)) (i : Nat), i ≤ l.length → (l.map (·.1)).Pairwise (· < ·) → isM l w = false → (∀ x, l[i]? = some x → w < x.1) → (∀ j x, j < i → l[j]? = some x → x.1 < w) → insM w m l = insAt l (w, m) i
  | [], 0, _, _, _, _, _ => rfl
  | [], i + 1, hi, _, _, _, _ => absurd hi (by simp)
  | e :: r, 0, _, hs, hw, h1, h2 => by
    unfold insM
    rw [if_pos (h1 e rfl)]; rfl
  | e :: r, i + 1, hi, hs, hw, h1, h2 => by
    unfold insM
    have he := h2 0 e (Nat.succ_pos _) rfl
    rw [if_neg (by omega), insM_at w m r i (by simpa using hi) (List.Pairwise.of_cons (by simpa using hs)) (by unfold isM at hw ⊢; rw [List.any_cons, Bool.or_eq_false_iff] at hw; exact hw.2) (fun x hx => h1 x (by simpa using hx)) (fun j x hj hx => h2 (j + 1) x (by omega) (by simpa using hx))]
    unfold insAt
    simp
theorem srt_le {l : List (Int × Bool)} (h : (l.map (·.1)).Pairwise (· < ·)) {i j : Nat} {x y : Int × Bool} (hij : i ≤ j) (hx : l[i]? = some x) (hy : l[j]? = some y) : x.1 ≤ y.1 := by
  rcases Nat.lt_or_eq_of_le hij with hlt | rfl
  · obtain ⟨h1, rfl⟩ := List.getElem?_eq_some_iff.1 hx
    obtain ⟨h2, rfl⟩ := List.getElem?_eq_some_iff.1 hy
    have := List.pairwise_iff_getElem.1 h i j (by rw [List.length_map]; exact h1) (by rw [List.length_map]; exact h2) hlt
    rw [List.getElem_map, List.getElem_map] at this
    omega
  · rw [hx] at hy; cases hy; exact Int.le_refl _
theorem notM_ne {l : List (Int × Bool)} {w : Int} (h : isM l w = false) {i : Nat} {x : Int × Bool} (hx : l[i]? = some x) : x.1 ≠ w := fun he => by
  rw [isM_mem.2 (List.mem_map.2 ⟨x, List.mem_of_getElem? hx, he⟩)] at h; cases h
theorem mEnc_one (ms : List (Int × Bool)) : (ms.flatMap mEnc).all (·.oneCell') = true := by
  rw [List.all_flatMap, List.all_eq_true]; intro g _; rfl
theorem xf_find' {W : World} {L : List Blk} (f : Rf) (hf : f.At W L) (w k : Int) (hk : ixOf (f.a.ms.map (·.1)) w = k) : XF Tryz.prog W 104 #[.agg f.enc.toArray, .int .u32 w] L (fun v L' => v = .int .i64 k ∧ L' = L) := hk ▸ xf_find f hf w
theorem xf_waits' {W : World} {L : List Blk} (f : Rf) (hf : f.At W L) (w k : Int) (hk : ixOf f.a.wt w = k) : XF Tryz.prog W 105 #[.agg f.enc.toArray, .int .u32 w] L (fun v L' => v = .int .i64 k ∧ L' = L) := hk ▸ xf_waits f hf w
set_option maxHeartbeats 800000 in
theorem xf_rJoin {W : World} {L : List Blk} (L0 : List Blk) (hs : ∀ z, z ∈ L0 → z ∈ L) (f : Rf) (hf : f.At W L0) (w : Int) (m : Bool) (hsrt : (f.a.ms.map (·.1)).Pairwise (· < ·)) (h32 : f.a.ms.length ≤ 32) : XF Tryz.prog W 68 #[.agg f.enc.toArray, .int .u32 w, .bool m] L (fun v L' => ∃ y N, v = .tuple #[.agg (Rf.enc y).toArray, .int .i64 (joinE f.a w)] ∧ y.a = joinF f.a w m ∧ y.At W (N ++ L0) ∧ L' = N ++ L) := by
  have hfL : ∀ L', (∀ z, z ∈ L → z ∈ L') → f.At W L' := fun L' h => hf.mono fun z hz => h z (hs z hz)
  obtain ⟨k, hk⟩ : ∃ k, ixOf (f.a.ms.map (·.1)) w = k := ⟨_, rfl⟩
  have hfi : ∀ L', (∀ z, z ∈ L → z ∈ L') → XF Tryz.prog W 104 #[.agg f.enc.toArray, .int .u32 w] L' (fun v L'' => v = .int .i64 k ∧ L'' = L') := fun L' h => xf_find' f (hfL L' h) w k hk
  refine xf_enter (args := [_, _, _]) Tryz.func68 rfl Tryz.ntmps68 rfl ?_
  cases hb : isM f.a.ms w with
  | true =>
    have hE : joinE f.a w = 132 := by unfold joinE; rw [if_pos hb]
    have hJ : joinF f.a w m = f.a := by unfold joinF; rw [hE]; rfl
    have hk0 : 0 ≤ k := hk ▸ isM_ix hb
    rw [hE, hJ]
    focus
      refine xc_seq ?_
      refine xc_region ?_
      refine xo_ef rfl (ef_box rfl fun r3 => ?_)
      refine xo_ef rfl (ef_alloc fun r6 => ?_)
      refine xo_rd (rd_assign rfl) rfl ?_
      refine xo_nil ?_
      refine xq_seq ?_
      refine xc_seq ?_
      refine xc_seq ?_
      refine xc_region ?_
      refine xo_rd (rd_loadB rfl Kn.o1 (by rfl)) rfl ?_
      refine xo_rd (rd_move rfl) rfl ?_
      refine xo_ef rfl (ef_call rfl (XF.mono (hfi _ (by intro z hz; simp [hz])) ?_))
      rintro v L' ⟨rfl, rfl⟩
      refine xo_rd (rd_geq rfl rfl) rfl ?_
      refine xo_nil ?_
      refine xq_seq ?_
      refine xc_dec rfl (fun h1 => ?_) (fun h1 => (by exfalso; omega))
      refine xc_seq ?_
      refine xc_region ?_
      refine xo_rd (rd_loadB rfl Kn.o1 (by rfl)) rfl ?_
      refine xo_ef rfl (ef_storeB [] _ rfl rfl (by first | rfl | assumption) rfl rfl rfl ?_)
      refine xo_rd (rd_assign rfl) rfl ?_
      refine xo_nil ?_
      refine xq_seq ?_
      refine xc_ret ?_
      refine xq_then_ret ?_
    exact xq_retB2 (.inl rfl) Tryz.results68 rfl rfl Kn.o0 rfl (List.sublist_append_right [_, _] _) ⟨f, [], rfl, rfl, hf, rfl⟩
  | false =>
    have hk0 : k < 0 := hk ▸ notM_ix hb
    by_cases h32' : f.a.ms.length = 32
    · have hE : joinE f.a w = 131 := by unfold joinE; rw [if_neg (by simp [hb]), if_pos (by omega)]
      have hJ : joinF f.a w m = f.a := by unfold joinF; rw [hE]; rfl
      rw [hE, hJ]
      focus
        refine xc_seq ?_
        refine xc_region ?_
        refine xo_ef rfl (ef_box rfl fun r3 => ?_)
        refine xo_ef rfl (ef_alloc fun r6 => ?_)
        refine xo_rd (rd_assign rfl) rfl ?_
        refine xo_nil ?_
        refine xq_seq ?_
        refine xc_seq ?_
        refine xc_seq ?_
        refine xc_region ?_
        refine xo_rd (rd_loadB rfl Kn.o1 (by rfl)) rfl ?_
        refine xo_rd (rd_move rfl) rfl ?_
        refine xo_ef rfl (ef_call rfl (XF.mono (hfi _ (by intro z hz; simp [hz])) ?_))
        rintro v L' ⟨rfl, rfl⟩
        refine xo_rd (rd_geq rfl rfl) rfl ?_
        refine xo_nil ?_
        refine xq_seq ?_
        refine xc_dec rfl (fun h1 => (by exfalso; omega)) (fun h1 => ?_)
        refine xc_skip ?_
        refine xq_seq ?_
        refine xc_seq ?_
        refine xc_seq ?_
        refine xc_region ?_
        refine xo_rd (rd_fieldAddr rfl) rfl ?_
        refine xo_rd (rd_load1 rfl (Cl.o1 rfl)) rfl ?_
        refine xo_rd (rd_len rfl) rfl ?_
        refine xo_rd (rd_eql rfl rfl) rfl ?_
        refine xo_nil ?_
        refine xq_seq ?_
        refine xc_dec rfl (fun h2 => ?_) (fun h2 => (by exfalso; omega))
        refine xc_seq ?_
        refine xc_region ?_
        refine xo_rd (rd_loadB rfl Kn.o1 (by rfl)) rfl ?_
        refine xo_ef rfl (ef_storeB [] _ rfl rfl (by first | rfl | assumption) rfl rfl rfl ?_)
        refine xo_rd (rd_assign rfl) rfl ?_
        refine xo_nil ?_
        refine xq_seq ?_
        refine xc_ret ?_
        refine xq_then_ret ?_
      exact xq_retB2 (.inl rfl) Tryz.results68 rfl rfl Kn.o0 rfl (List.sublist_append_right [_, _] _) ⟨f, [], rfl, rfl, hf, rfl⟩
    · have hE : joinE f.a w = 0 := by unfold joinE; rw [if_neg (by simp [hb]), if_neg (by omega)]
      have hJ : joinF f.a w m = { f.a with ms := insM w m f.a.ms } := by unfold joinF; rw [hE]; rfl
      rw [hE, hJ]
      have hm1 := fun L' (h : ∀ z, z ∈ L → z ∈ L') => (hfL L' h).m
      focus
        refine xc_seq ?_
        refine xc_region ?_
        refine xo_ef rfl (ef_box rfl fun r3 => ?_)
        refine xo_ef rfl (ef_alloc fun r6 => ?_)
        refine xo_rd (rd_assign rfl) rfl ?_
        refine xo_nil ?_
        refine xq_seq ?_
        refine xc_seq ?_
        refine xc_seq ?_
        refine xc_region ?_
        refine xo_rd (rd_loadB rfl Kn.o1 (by rfl)) rfl ?_
        refine xo_rd (rd_move rfl) rfl ?_
        refine xo_ef rfl (ef_call rfl (XF.mono (hfi _ (by intro z hz; simp [hz])) ?_))
        rintro v L' ⟨rfl, rfl⟩
        refine xo_rd (rd_geq rfl rfl) rfl ?_
        refine xo_nil ?_
        refine xq_seq ?_
        refine xc_dec rfl (fun h1 => (by exfalso; omega)) (fun h1 => ?_)
        refine xc_skip ?_
        refine xq_seq ?_
        refine xc_seq ?_
        refine xc_seq ?_
        refine xc_region ?_
        refine xo_rd (rd_fieldAddr rfl) rfl ?_
        refine xo_rd (rd_load1 rfl (Cl.o1 rfl)) rfl ?_
        refine xo_rd (rd_len rfl) rfl ?_
        refine xo_rd (rd_eql rfl rfl) rfl ?_
        refine xo_nil ?_
        refine xq_seq ?_
        refine xc_dec rfl (fun h2 => (by exfalso; omega)) (fun h2 => ?_)
        refine xc_skip ?_
        refine xq_seq ?_
        refine xc_seq ?_
        refine xc_region ?_
        refine xo_rd (rd_assign rfl) rfl ?_
        refine xo_nil ?_
        refine xq_seq ?_
        refine xc_seq ?_
        refine xc_region ?_
        refine xo_rd (rd_move rfl) rfl ?_
        refine xo_rd (rd_fieldAddr rfl) rfl ?_
        refine xo_rd (rd_load1 rfl (Cl.o1 rfl)) rfl ?_
        refine xo_ef rfl (ef_appendQS [_, _] _ [] (news := f.a.ms.flatMap mEnc) rfl rfl SlQ.nil rfl (hm1 _ (by intro z hz; simp [hz])) (flat_length mEnc mEnc_len _) (mEnc_one _) (by decide) (by omega) (by omega) fun gp1 gc1 gl1 hO1 hk1 => ?_)
        refine xo_rd (rd_assign rfl) rfl ?_
        refine xo_nil ?_
        refine xq_seq ?_
      rw [List.nil_append] at hO1
      rw [Nat.zero_add f.a.ms.length] at hO1 hk1 ⊢
      focus
        refine xc_seq ?_
        refine xc_region ?_
        refine xo_rd (rd_move rfl) rfl ?_
        refine xo_rd (rd_move rfl) rfl ?_
        refine xo_rd (rd_move rfl) rfl ?_
        refine xo_rd (rd_cast (v' := .agg (mEnc (w, m)).toArray) (rd_build (T := 163) rfl rfl rfl) (by kernel_rfl)) rfl ?_
        refine xo_ef rfl (ef_sliceA (vs := mEnc (w, m)) rfl rfl (by rw [mEnc_len]; decide) (by rw [mEnc_len]; decide) fun r28 => ?_)
        refine xo_ef rfl (ef_appendQS [_, _, _] L gl1 (news := mEnc (w, m)) rfl rfl hO1 rfl (Rs.fresh (List.Mem.head _)) rfl rfl (by decide) (by omega) (by omega) fun gp2 gc2 gl2 hO2 hk2 => ?_)
        refine xo_rd (rd_assign rfl) rfl ?_
        refine xo_nil ?_
        refine xq_seq ?_
        refine xc_seq ?_
        refine xc_seq ?_
        refine xc_region ?_
        refine xo_rd (rd_move rfl) rfl ?_
        refine xo_rd (rd_len rfl) rfl ?_
        refine xo_rd (rd_cast (v' := .int .i64 (f.a.ms.length : Nat)) (rd_subn rfl rfl (by omega) (by omega)) (by congr 1; omega)) rfl ?_
        refine xo_rd (rd_assign rfl) rfl ?_
        refine xo_nil ?_
        refine xq_seq ?_
        refine xc_block ?_
      refine xc_loopI (ι := Nat × List Blk) (fun s => s.1 ≤ f.a.ms.length ∧ (∀ x, f.a.ms[s.1]? = some x → w < x.1) ∧ SlQ 2 163 (.slice gp2 (f.a.ms.length + 1) gc2) (f.a.ms.length + 1) ((insAt f.a.ms (w, m) s.1).flatMap mEnc) s.2) (fun s => s.1) (fun s => (r28, Obj.cells (mEnc (w, m)).toArray 163 (0, 0)) :: (r6, Obj.cells (rfE 0 0 none 0 0 false 0 0 0 0 false none 0 0 none 0 0).toArray 42 (0, 0)) :: (r3, Obj.cells f.enc.toArray 42 (0, 0)) :: (s.2 ++ L)) (fun s => [(3, .pointer (some ⟨r3, 0, none⟩)), (6, .pointer (some ⟨r6, 0, none⟩)), (7, .int .i64 0), (8, .slice gp2 (f.a.ms.length + 1) gc2), (9, .int .i64 s.1)]) (f.a.ms.length, gl2) ⟨Nat.le_refl _, fun x hx => by rw [List.getElem?_eq_none (Nat.le_refl _)] at hx; (cases hx), by dsimp only; unfold insAt; rw [List.take_length, List.drop_length, List.flatMap_append, List.flatMap_singleton]; exact hO2⟩ rfl (by repeat (first | exact keep_nil | refine keep_cons rfl ?_)) ?_
      rintro ⟨i, lb⟩ ⟨hi, hup, hO⟩
      dsimp only at hi hup hO ⊢
      cases i with
      | zero =>
        have hM : insM w m f.a.ms = insAt f.a.ms (w, m) 0 := insM_at w m f.a.ms 0 (Nat.zero_le _) hsrt hb hup (fun j x hj _ => absurd hj (Nat.not_lt_zero _))
        focus
          refine xc_seq ?_
          refine xc_seq ?_
          refine xc_drawML [0, 1, 2, 4, 4, 20, 44, 68, 132, 4, 4, 1540, 2052, 4100, 8452, 16388] [0, 1, 2, 4, 4, 20, 44, 68, 132, 4, 4, 1540, 2052, 4100, 8452, 16388] (by kernel_rfl) (by kernel_rfl) (by kernel_rfl) ?_
          refine xm_take 0 (m' := 1) rfl (by kernel_rfl) Sb.a (rd_move rfl) rfl (by kernel_rfl) ?_
          refine xm_take 1 (m' := 3) rfl (by kernel_rfl) Sb.a (rd_gtr rfl rfl) rfl (by kernel_rfl) ?_
          refine xm_take 2 (m' := 7) rfl (by kernel_rfl) Sb.a (rd_move rfl) rfl (by kernel_rfl) ?_
          refine xm_gskip 3 (m' := 15) rfl (by kernel_rfl) Sb.a rfl rfl rfl rfl (by kernel_rfl) ?_
          refine xm_gskip 4 (m' := 31) rfl (by kernel_rfl) Sb.a rfl rfl rfl rfl (by kernel_rfl) ?_
          refine xm_gskip 5 (m' := 63) rfl (by kernel_rfl) Sb.a rfl rfl rfl rfl (by kernel_rfl) ?_
          refine xm_gskip 6 (m' := 127) rfl (by kernel_rfl) Sb.a rfl rfl rfl rfl (by kernel_rfl) ?_
          refine xm_gskip 7 (m' := 255) rfl (by kernel_rfl) Sb.a rfl rfl rfl rfl (by kernel_rfl) ?_
          refine xm_gskip 8 (m' := 511) rfl (by kernel_rfl) Sb.a rfl rfl rfl rfl (by kernel_rfl) ?_
          refine xm_gskip 9 (m' := 1023) rfl (by kernel_rfl) Sb.a rfl rfl rfl rfl (by kernel_rfl) ?_
          refine xm_gskip 10 (m' := 2047) rfl (by kernel_rfl) Sb.a rfl rfl rfl rfl (by kernel_rfl) ?_
          refine xm_gskip 11 (m' := 4095) rfl (by kernel_rfl) Sb.a rfl rfl rfl rfl (by kernel_rfl) ?_
          refine xm_gskip 12 (m' := 8191) rfl (by kernel_rfl) Sb.a rfl rfl rfl rfl (by kernel_rfl) ?_
          refine xm_gskip 13 (m' := 16383) rfl (by kernel_rfl) Sb.a rfl rfl rfl rfl (by kernel_rfl) ?_
          refine xm_gskip 14 (m' := 32767) rfl (by kernel_rfl) Sb.a rfl rfl rfl rfl (by kernel_rfl) ?_
          refine xm_take 15 (m' := 65535) rfl (by kernel_rfl) Sb.a (rd_pickf rfl rfl) rfl (by kernel_rfl) ?_
          refine xm_done (by kernel_rfl) ?_
          refine xq_seq ?_
          refine xc_condf rfl ?_
          refine xc_exit ?_
          refine xq_then_exit ?_
          refine xq_then_exit ?_
          refine xq_block_hit ?_
          refine xq_seq ?_
          refine xc_seq ?_
          refine xc_region ?_
          refine xo_rd (rd_move rfl) rfl ?_
          refine xo_rd (rd_fieldAddr rfl) rfl ?_
          refine xo_ef rfl (ef_store1 [_, _] _ rfl rfl (by first | rfl | assumption) rfl rfl rfl ?_)
          refine xo_nil ?_
          refine xq_seq ?_
          refine xc_seq ?_
          refine xc_region ?_
          refine xo_rd (rd_loadB rfl Kn.o2 (by rfl)) rfl ?_
          refine xo_ef rfl (ef_storeB [_] _ rfl rfl (by first | rfl | assumption) rfl rfl rfl ?_)
          refine xo_rd (rd_assign rfl) rfl ?_
          refine xo_nil ?_
          refine xq_seq ?_
          refine xc_ret ?_
        exact xq_retB2 (.inl rfl) Tryz.results68 rfl rfl Kn.o1 rfl (List.sublist_append_right [_, _, _] _) ⟨⟨{ f.a with ms := insM w m f.a.ms }, gp2, gc2, f.wp, f.wc, f.gp, f.gc⟩, lb, by simp only [Rf.enc, hM, insAt_len]; rfl, rfl, ⟨by dsimp only; rw [hM]; exact hO.rs (by intro z hz; simp [hz]), hf.w.mono (by intro z hz; simp [hz]), hf.g.mono (by intro z hz; simp [hz]), by dsimp only; rw [hM, insAt_len]; exact hk2, by dsimp only; rw [hM, insAt_len]; omega, hf.wl, hf.gl⟩, rfl⟩
      | succ j =>
        have hlt := insAt_len f.a.ms (w, m) (j + 1)
        obtain ⟨b, o, hp, hc⟩ := (hO.rs (W := W) (L := (r28, Obj.cells (mEnc (w, m)).toArray 163 (0, 0)) :: (r6, Obj.cells (rfE 0 0 none 0 0 false 0 0 0 0 false none 0 0 none 0 0).toArray 42 (0, 0)) :: (r3, Obj.cells f.enc.toArray 42 (0, 0)) :: (lb ++ L)) (by intro z hz; simp [hz])).rows mEnc_len (by decide) (by omega)
        subst hp
        obtain ⟨x, hx⟩ : ∃ x, f.a.ms[j]? = some x := ⟨_, List.getElem?_eq_getElem (by omega)⟩
        have hx1 : (insAt f.a.ms (w, m) (j + 1))[j] = x := by
          have := (insAt_prev f.a.ms (w, m) j (by omega)).trans hx
          rw [List.getElem?_eq_getElem (by omega)] at this; exact Option.some.inj this
        have hx2 : (insAt f.a.ms (w, m) (j + 1))[j + 1] = (w, m) := by
          have := insAt_self f.a.ms (w, m) (j + 1) hi
          rw [List.getElem?_eq_getElem (by omega)] at this; exact Option.some.inj this
        have c1 := hc j (by omega)
        have c2 := hc (j + 1) (by omega)
        rw [hx1] at c1
        rw [hx2] at c2
        focus
          refine xc_seq ?_
          refine xc_seq ?_
          refine xc_drawML [0, 1, 2, 4, 4, 20, 44, 68, 132, 4, 4, 1540, 2052, 4100, 8452, 16388] [0, 1, 2, 4, 4, 20, 44, 68, 132, 4, 4, 1540, 2052, 4100, 8452, 16388] (by kernel_rfl) (by kernel_rfl) (by kernel_rfl) ?_
          refine xm_take 0 (m' := 1) rfl (by kernel_rfl) Sb.a (rd_move rfl) rfl (by kernel_rfl) ?_
          refine xm_take 1 (m' := 3) rfl (by kernel_rfl) Sb.a (rd_gtr rfl rfl) rfl (by kernel_rfl) ?_
          refine xm_take 2 (m' := 7) rfl (by kernel_rfl) Sb.a (rd_move rfl) rfl (by kernel_rfl) ?_
          refine xm_dec 35 rfl (fun hz1 => ?_) (fun hz1 => (by exfalso; omega))
          refine xm_gtake 3 (m' := 15) rfl (by kernel_rfl) Sb.a rfl rfl (rd_move rfl) rfl (by kernel_rfl) ?_
          refine xm_gtake 4 (m' := 31) rfl (by kernel_rfl) Sb.a rfl rfl (rd_move rfl) rfl (by kernel_rfl) ?_
          refine xm_gtake 5 (m' := 63) rfl (by kernel_rfl) Sb.a rfl rfl (rd_cast (v' := .int .i64 (j : Nat)) (rd_subn rfl rfl (by omega) (by omega)) (by congr 1; omega)) rfl (by kernel_rfl) ?_
          refine xm_gtake 6 (m' := 127) rfl (by kernel_rfl) Sb.a rfl rfl (rd_indexAddr rfl rfl (by omega) (by omega)) rfl (by kernel_rfl) ?_
          refine xm_gtake 7 (m' := 255) rfl (by kernel_rfl) Sb.a rfl rfl (rd_fieldAddr rfl) rfl (by kernel_rfl) ?_
          refine xm_gtake 8 (m' := 511) rfl (by kernel_rfl) Sb.a rfl rfl (rd_load1 rfl (c1 0 _ rfl)) rfl (by kernel_rfl) ?_
          refine xm_gtake 9 (m' := 1023) rfl (by kernel_rfl) Sb.a rfl rfl (rd_move rfl) rfl (by kernel_rfl) ?_
          refine xm_gtake 10 (m' := 2047) rfl (by kernel_rfl) Sb.a rfl rfl (rd_move rfl) rfl (by kernel_rfl) ?_
          refine xm_gtake 11 (m' := 4095) rfl (by kernel_rfl) Sb.a rfl rfl (rd_indexAddr rfl rfl (by omega) (by omega)) rfl (by kernel_rfl) ?_
          refine xm_gtake 12 (m' := 8191) rfl (by kernel_rfl) Sb.a rfl rfl (rd_fieldAddr rfl) rfl (by kernel_rfl) ?_
          refine xm_gtake 13 (m' := 16383) rfl (by kernel_rfl) Sb.a rfl rfl (rd_load1 rfl (c2 0 _ rfl)) rfl (by kernel_rfl) ?_
          refine xm_gtake 14 (m' := 32767) rfl (by kernel_rfl) Sb.a rfl rfl (rd_gtr rfl rfl) rfl (by kernel_rfl) ?_
          refine xm_take 15 (m' := 65535) rfl (by kernel_rfl) Sb.a (rd_pickt rfl rfl) rfl (by kernel_rfl) ?_
          refine xm_done (by kernel_rfl) ?_
          refine xq_seq ?_
          refine xc_dec rfl (fun hz2 => ?_) (fun hz2 => ?_)
          refine xc_skip ?_
          refine xq_seq ?_
          rotate_left
          refine xc_exit ?_
          refine xq_then_exit ?_
          refine xq_then_exit ?_
          refine xq_block_hit ?_
          refine xq_seq ?_
          refine xc_seq ?_
          refine xc_region ?_
          refine xo_rd (rd_move rfl) rfl ?_
          refine xo_rd (rd_fieldAddr rfl) rfl ?_
          refine xo_ef rfl (ef_store1 [_, _] _ rfl rfl (by first | rfl | assumption) rfl rfl rfl ?_)
          refine xo_nil ?_
          refine xq_seq ?_
          refine xc_seq ?_
          refine xc_region ?_
          refine xo_rd (rd_loadB rfl Kn.o2 (by rfl)) rfl ?_
          refine xo_ef rfl (ef_storeB [_] _ rfl rfl (by first | rfl | assumption) rfl rfl rfl ?_)
          refine xo_rd (rd_assign rfl) rfl ?_
          refine xo_nil ?_
          refine xq_seq ?_
          refine xc_ret ?_
          rotate_left
        · have hsw := insAt_swap f.a.ms (w, m) x j (by omega) hx
          focus
            refine xc_seq ?_
            refine xc_block ?_
            refine xc_drawM [0, 0, 2, 0, 0, 0, 0, 96, 128, 0, 0, 1024, 2560, 4096, 8679, 25063, 65535, 131071] [0, 0, 2, 0, 0, 0, 0, 96, 128, 0, 0, 1024, 2560, 4096, 8679, 25063, 65535, 131071] [] (by kernel_rfl) (by kernel_rfl) (by kernel_rfl) ?_
            refine xm_take 0 (m' := 1) rfl (by kernel_rfl) Sb.a (rd_move rfl) rfl (by kernel_rfl) ?_
            refine xm_take 1 (m' := 3) rfl (by kernel_rfl) Sb.a (rd_move rfl) rfl (by kernel_rfl) ?_
            refine xm_take 2 (m' := 7) rfl (by kernel_rfl) Sb.a (rd_cast (v' := .int .i64 (j : Nat)) (rd_subn rfl rfl (by omega) (by omega)) (by congr 1; omega)) rfl (by kernel_rfl) ?_
            refine xm_take 3 (m' := 15) rfl (by kernel_rfl) Sb.a (rd_move rfl) rfl (by kernel_rfl) ?_
            refine xm_take 4 (m' := 31) rfl (by kernel_rfl) Sb.a (rd_move rfl) rfl (by kernel_rfl) ?_
            refine xm_take 5 (m' := 63) rfl (by kernel_rfl) Sb.a (rd_move rfl) rfl (by kernel_rfl) ?_
            refine xm_take 6 (m' := 127) rfl (by kernel_rfl) Sb.a (rd_move rfl) rfl (by kernel_rfl) ?_
            refine xm_take 7 (m' := 255) rfl (by kernel_rfl) Sb.a (rd_indexAddr rfl rfl (by omega) (by omega)) rfl (by kernel_rfl) ?_
            refine xm_take 9 (m' := 767) rfl (by kernel_rfl) Sb.a (rd_move rfl) rfl (by kernel_rfl) ?_
            refine xm_take 10 (m' := 1791) rfl (by kernel_rfl) Sb.a (rd_move rfl) rfl (by kernel_rfl) ?_
            refine xm_take 11 (m' := 3839) rfl (by kernel_rfl) Sb.a (rd_cast (v' := .int .i64 (j : Nat)) (rd_subn rfl rfl (by omega) (by omega)) (by congr 1; omega)) rfl (by kernel_rfl) ?_
            refine xm_take 12 (m' := 7935) rfl (by kernel_rfl) Sb.a (rd_indexAddr rfl rfl (by omega) (by omega)) rfl (by kernel_rfl) ?_
            refine xm_two 8 13 (mi := 8191) (mk := 16127) rfl rfl (by kernel_rfl) rfl rfl (by kernel_rfl) (by kernel_rfl) (ef_rd (rd_loadA (vs := mEnc (w, m)) rfl rfl c2) ⟨Sb.a, ?_⟩) (ef_rd (rd_loadA (vs := mEnc x) rfl rfl c1) ⟨Sb.a, ?_⟩)
            refine xm_one 13 (m' := 16383) rfl (by kernel_rfl) rfl (by kernel_rfl) (ef_rd (rd_loadA (vs := mEnc x) rfl rfl c1) ?_)
            refine ⟨Sb.a, ?_⟩
            refine xm_take 14 (m' := 32767) rfl (by kernel_rfl) Sb.a (rd_indexAddr rfl rfl (by omega) (by omega)) rfl (by kernel_rfl) ?_
            rotate_left
            refine xm_one 8 (m' := 16383) rfl (by kernel_rfl) rfl (by kernel_rfl) (ef_rd (rd_loadA (vs := mEnc (w, m)) rfl rfl c2) ?_)
            refine ⟨Sb.a, ?_⟩
            refine xm_take 14 (m' := 32767) rfl (by kernel_rfl) Sb.a (rd_indexAddr rfl rfl (by omega) (by omega)) rfl (by kernel_rfl) ?_
            rotate_left
          · skip
            focus
              refine xm_one 15 (m' := 65535) rfl (by kernel_rfl) rfl (by kernel_rfl) (ef_storeQ (v := .bool true) [_, _, _] L (i := j) (vs := mEnc (w, m)) hO rfl rfl (by omega) rfl rfl rfl rfl fun lb2 hO2 => ?_)
              refine ⟨Sb.a, ?_⟩
              refine xm_take 16 (m' := 131071) rfl (by kernel_rfl) Sb.a (rd_indexAddr rfl rfl (by omega) (by omega)) rfl (by kernel_rfl) ?_
              refine xm_one 17 (m' := 262143) rfl (by kernel_rfl) rfl (by kernel_rfl) (ef_storeQ (v := .bool true) [_, _, _] L (i := j + 1) (vs := mEnc x) hO2 rfl rfl (by omega) rfl rfl rfl rfl fun lb3 hO3 => ?_)
              refine ⟨Sb.a, ?_⟩
              refine xm_done (by kernel_rfl) ?_
              refine xq_block ?_
              refine xq_seq ?_
              refine xc_region ?_
              refine xo_rd (rd_move rfl) rfl ?_
              refine xo_rd (rd_cast (v' := .int .i64 (j : Nat)) (rd_subn rfl rfl (by omega) (by omega)) (by congr 1; omega)) rfl ?_
              refine xo_rd (rd_assign rfl) rfl ?_
              refine xo_nil ?_
            rw [← flat_setR mEnc_len _ j (w, m) (by rw [hlt]; omega), ← flat_setR mEnc_len _ (j + 1) x (by rw [List.length_set, hlt]; omega), hsw] at hO3
            exact xq_roundI ((j, lb3) : Nat × List Blk) ⟨by dsimp only; omega, fun y hy => by dsimp only at hy; rw [hx] at hy; cases hy; exact hz2, hO3⟩ (Nat.lt_succ_self _) rfl (by repeat (first | exact keep_nil | refine keep_cons rfl ?_))
          · skip
            focus
              refine xm_one 15 (m' := 65535) rfl (by kernel_rfl) rfl (by kernel_rfl) (ef_storeQ (v := .bool true) [_, _, _] L (i := j) (vs := mEnc (w, m)) hO rfl rfl (by omega) rfl rfl rfl rfl fun lb2 hO2 => ?_)
              refine ⟨Sb.a, ?_⟩
              refine xm_take 16 (m' := 131071) rfl (by kernel_rfl) Sb.a (rd_indexAddr rfl rfl (by omega) (by omega)) rfl (by kernel_rfl) ?_
              refine xm_one 17 (m' := 262143) rfl (by kernel_rfl) rfl (by kernel_rfl) (ef_storeQ (v := .bool true) [_, _, _] L (i := j + 1) (vs := mEnc x) hO2 rfl rfl (by omega) rfl rfl rfl rfl fun lb3 hO3 => ?_)
              refine ⟨Sb.a, ?_⟩
              refine xm_done (by kernel_rfl) ?_
              refine xq_block ?_
              refine xq_seq ?_
              refine xc_region ?_
              refine xo_rd (rd_move rfl) rfl ?_
              refine xo_rd (rd_cast (v' := .int .i64 (j : Nat)) (rd_subn rfl rfl (by omega) (by omega)) (by congr 1; omega)) rfl ?_
              refine xo_rd (rd_assign rfl) rfl ?_
              refine xo_nil ?_
            rw [← flat_setR mEnc_len _ j (w, m) (by rw [hlt]; omega), ← flat_setR mEnc_len _ (j + 1) x (by rw [List.length_set, hlt]; omega), hsw] at hO3
            exact xq_roundI ((j, lb3) : Nat × List Blk) ⟨by dsimp only; omega, fun y hy => by dsimp only at hy; rw [hx] at hy; cases hy; exact hz2, hO3⟩ (Nat.lt_succ_self _) rfl (by repeat (first | exact keep_nil | refine keep_cons rfl ?_))
        · have hM : insM w m f.a.ms = insAt f.a.ms (w, m) (j + 1) := insM_at w m f.a.ms (j + 1) hi hsrt hb hup (fun j' x' hj hx' => by have h1 := srt_le hsrt (Nat.le_of_lt_succ hj) hx' hx; have h2 := notM_ne hb hx; have h3 := notM_ne hb hx'; have h4 : ¬ w < x.1 := hz2; omega)
          exact xq_retB2 (.inl rfl) Tryz.results68 rfl rfl Kn.o1 rfl (List.sublist_append_right [_, _, _] _) ⟨⟨{ f.a with ms := insM w m f.a.ms }, some ⟨b, o, none⟩, gc2, f.wp, f.wc, f.gp, f.gc⟩, lb, by simp only [Rf.enc, hM, insAt_len]; rfl, rfl, ⟨by dsimp only; rw [hM]; exact hO.rs (by intro z hz; simp [hz]), hf.w.mono (by intro z hz; simp [hz]), hf.g.mono (by intro z hz; simp [hz]), by dsimp only; rw [hM, insAt_len]; exact hk2, by dsimp only; rw [hM, insAt_len]; omega, hf.wl, hf.gl⟩, rfl⟩
end Go.Proofs.YtmdeajdaeihniaaGreat.X
/-
  Chapter 13: the reference's floor: who leaves: a walk of my own.
-/
namespace Go.Proofs.YtmdeajdaeihniaaGreat.X
open Go Go.RowKit
set_option linter.unusedVariables false
set_option linter.unusedSimpArgs false
theorem filter_erase {α : Type} (f : α → Int) : ∀ (l : List α) (i : Nat) (x : α), (l.map f).Nodup → l[i]? = some x → l.filter (fun e => !decide (f e = f x)) = l.eraseIdx i
  | [], i, x, _, h => by simp at h
  | y :: r, 0, x, hn, h => by
    simp only [List.getElem?_cons_zero, Option.some.injEq] at h
    subst h
    rw [List.map_cons, List.nodup_cons] at hn
    rw [List.filter_cons_of_neg (by simp), List.filter_eq_self.2 (fun e he => by
      have : f e ≠ f y := fun h2 => hn.1 (List.mem_map.2 ⟨e, he, h2⟩)
      simp [this])]
    rfl
  | y :: r, i + 1, x, hn, h => by
    rw [List.getElem?_cons_succ] at h
    rw [List.map_cons, List.nodup_cons] at hn
    have : f y ≠ f x := fun h2 => hn.1 (List.mem_map.2 ⟨x, List.mem_of_getElem? h, h2.symm⟩)
    rw [List.filter_cons_of_pos (by simp [this]), filter_erase f r i x hn.2 h]
    rfl
theorem ix_at {l : List Int} {w : Int} (h : w ∈ l) : ∃ i, i < l.length ∧ ixOf l w = (i : Int) ∧ l[i]? = some w := by
  unfold ixOf
  cases hf : l.findIdx? (· == w) with
  | none => have := List.findIdx?_eq_none_iff.1 hf w h; simp at this
  | some i =>
    obtain ⟨hi, h1, _⟩ := List.findIdx?_eq_some_iff_getElem.1 hf
    exact ⟨i, hi, rfl, by rw [List.getElem?_eq_getElem hi, eq_of_beq h1]⟩
theorem Rs.flat_take {W : World} {L : List Blk} {p : Option Addr} {α : Type} {enc : α → List Value} {l : List α} (h : Rs W L p (l.flatMap enc)) (i : Nat) : Rs W L p ((l.take i).flatMap enc) := by
  have : l.flatMap enc = (l.take i).flatMap enc ++ (l.drop i).flatMap enc := by rw [← List.flatMap_append, List.take_append_drop]
  intro j u hj
  exact h j u (by rw [this, List.getElem?_append_left (List.getElem?_eq_some_iff.1 hj).1]; exact hj)
theorem Rs.slpm {W : World} {L : List Blk} {p : Option Addr} {xs : List Value} (h : Rs W L p xs) (cap l m : Nat) (hc : xs.length ≤ cap * m) : Rs W L (X.slp p cap l m) (xs.drop (l * m)) := by
  unfold X.slp
  split
  · rename_i he
    rw [List.drop_eq_nil_of_le (by rw [← he]; exact hc)]
    exact Rs.nil
  · cases p with
    | none => rw [h.none_nil]; simp; exact Rs.nil
    | some a =>
      by_cases h0 : xs.length = 0
      · rw [List.length_eq_zero_iff.1 h0]; simp; exact Rs.nil
      · obtain ⟨b, o, ha, _⟩ := h 0 _ (List.getElem?_eq_getElem (by omega))
        simp only [Option.some.injEq] at ha
        subst ha
        show Rs W L (some ((⟨b, o, none⟩ : Addr).add (l * m))) _
        rw [add_zero']
        exact Rs.drop h (l * m)
set_option maxHeartbeats 1600000 in
theorem xf_rLeave {W : World} {L : List Blk} (L0 : List Blk) (hs : ∀ z, z ∈ L0 → z ∈ L) (f : Rf) (hf : f.At W L0) (w now : Int) (hnd : (f.a.ms.map (·.1)).Nodup) (hwn : f.a.wt.Nodup) (hg : f.a.gs.length < 1000000) : XF Tryz.prog W 70 #[.agg f.enc.toArray, .int .u32 w, .int .u64 now] L (fun v L' => ∃ y N, v = .tuple #[.agg (Rf.enc y).toArray, .int .i64 (leaveE f.a w)] ∧ y.a = leaveF f.a w now ∧ y.At W (N ++ L0) ∧ L' = N ++ L) := by
  have hfL : ∀ L', (∀ z, z ∈ L → z ∈ L') → f.At W L' := fun L' h => hf.mono fun z hz => h z (hs z hz)
  refine xf_enter (args := [_, _, _]) Tryz.func70 rfl Tryz.ntmps70 rfl ?_
  cases hb : isM f.a.ms w with
  | false =>
    obtain ⟨k, hk⟩ : ∃ k, ixOf (f.a.ms.map (·.1)) w = k := ⟨_, rfl⟩
    have hfi : ∀ L', (∀ z, z ∈ L → z ∈ L') → XF Tryz.prog W 104 #[.agg f.enc.toArray, .int .u32 w] L' (fun v L'' => v = .int .i64 k ∧ L'' = L') := fun L' h => xf_find' f (hfL L' h) w k hk
    have hE : leaveE f.a w = 130 := by unfold leaveE; rw [hb]; rfl
    have hJ : leaveF f.a w now = f.a := by unfold leaveF; rw [hb]; rfl
    have hk0 : k < 0 := hk ▸ notM_ix hb
    rw [hE, hJ]
    focus
      refine xc_seq ?_
      refine xc_region ?_
      refine xo_ef rfl (ef_box rfl fun r3 => ?_)
      refine xo_ef rfl (ef_alloc fun r6 => ?_)
      refine xo_rd (rd_assign rfl) rfl ?_
      refine xo_nil ?_
      refine xq_seq ?_
      refine xc_seq ?_
      refine xc_region ?_
      refine xo_rd (rd_loadB rfl Kn.o1 (by rfl)) rfl ?_
      refine xo_rd (rd_move rfl) rfl ?_
      refine xo_ef rfl (ef_call rfl (XF.mono (hfi _ (by intro z hz; simp [hz])) ?_))
      rintro v L' ⟨rfl, rfl⟩
      refine xo_rd (rd_assign rfl) rfl ?_
      refine xo_nil ?_
      refine xq_seq ?_
      refine xc_seq ?_
      refine xc_seq ?_
      refine xc_region ?_
      refine xo_rd (rd_move rfl) rfl ?_
      refine xo_rd (rd_lss rfl rfl) rfl ?_
      refine xo_nil ?_
      refine xq_seq ?_
      refine xc_dec rfl (fun h1 => ?_) (fun h1 => (by exfalso; omega))
      refine xc_seq ?_
      refine xc_region ?_
      refine xo_rd (rd_loadB rfl Kn.o1 (by rfl)) rfl ?_
      refine xo_ef rfl (ef_storeB [] _ rfl rfl (by first | rfl | assumption) rfl rfl rfl ?_)
      refine xo_rd (rd_assign rfl) rfl ?_
      refine xo_nil ?_
      refine xq_seq ?_
      refine xc_ret ?_
      refine xq_then_ret ?_
    exact xq_retB2 (.inl rfl) Tryz.results70 rfl rfl Kn.o0 rfl (List.sublist_append_right [_, _] _) ⟨f, [], rfl, rfl, hf, rfl⟩
  | true =>
    obtain ⟨i, hil, hix, hiw⟩ := ix_at (isM_mem.1 hb)
    rw [List.length_map] at hil
    have hfi : ∀ L', (∀ z, z ∈ L → z ∈ L') → XF Tryz.prog W 104 #[.agg f.enc.toArray, .int .u32 w] L' (fun v L'' => v = .int .i64 (i : Int) ∧ L'' = L') := fun L' h => xf_find' f (hfL L' h) w i hix
    have hxi : (f.a.ms[i]).1 = w := by
      rw [List.getElem?_map, List.getElem?_eq_getElem hil] at hiw
      exact Option.some.inj hiw
    have hfe : (f.a.ms.filter fun e => !(e.1 == w)) = f.a.ms.eraseIdx i := by
      have := filter_erase (fun e : Int × Bool => e.1) f.a.ms i _ hnd (List.getElem?_eq_getElem hil)
      rw [hxi] at this; exact this
    have hE : leaveE f.a w = 0 := by unfold leaveE; rw [hb]; rfl
    have hml := hf.ml
    have hmc := hf.mc
    have hlen : (f.a.ms.eraseIdx i).length = f.a.ms.length - 1 := by rw [List.length_eraseIdx, if_pos hil]
    have hsr := fun L' (h : ∀ z, z ∈ L → z ∈ L') => (hfL L' h).m
    have hfl : (f.a.ms.flatMap mEnc).length = f.a.ms.length * 2 := flat_length mEnc mEnc_len _
    focus
      refine xc_seq ?_
      refine xc_region ?_
      refine xo_ef rfl (ef_box rfl fun r3 => ?_)
      refine xo_ef rfl (ef_alloc fun r6 => ?_)
      refine xo_rd (rd_assign rfl) rfl ?_
      refine xo_nil ?_
      refine xq_seq ?_
      refine xc_seq ?_
      refine xc_region ?_
      refine xo_rd (rd_loadB rfl Kn.o1 (by rfl)) rfl ?_
      refine xo_rd (rd_move rfl) rfl ?_
      refine xo_ef rfl (ef_call rfl (XF.mono (hfi _ (by intro z hz; simp [hz])) ?_))
      rintro v L' ⟨rfl, rfl⟩
      refine xo_rd (rd_assign rfl) rfl ?_
      refine xo_nil ?_
      refine xq_seq ?_
      refine xc_seq ?_
      refine xc_seq ?_
      refine xc_region ?_
      refine xo_rd (rd_move rfl) rfl ?_
      refine xo_rd (rd_lss rfl rfl) rfl ?_
      refine xo_nil ?_
      refine xq_seq ?_
      refine xc_condf rfl ?_
      refine xc_skip ?_
      refine xq_seq ?_
      refine xc_seq ?_
      refine xc_region ?_
      refine xo_rd (rd_assign rfl) rfl ?_
      refine xo_nil ?_
      refine xq_seq ?_
      refine xc_seq ?_
      refine xc_region ?_
      refine xo_rd (rd_move rfl) rfl ?_
      refine xo_rd (rd_fieldAddr rfl) rfl ?_
      refine xo_rd (rd_load1 rfl (Cl.o1 rfl)) rfl ?_
      refine xo_rd (rd_move rfl) rfl ?_
      refine xo_rd (rd_cast (v' := .slice f.mp i f.mc) (rd_slHi rfl rfl (by omega) (by omega)) rfl) rfl ?_
      refine xo_ef rfl (ef_appendQS [_, _] _ [] (news := (f.a.ms.take i).flatMap mEnc) rfl rfl SlQ.nil rfl ((hsr _ (by intro z hz; simp [hz])).flat_take i) (by rw [flat_length mEnc mEnc_len, List.length_take, Nat.min_eq_left (by omega)]) (mEnc_one _) (by decide) (by omega) (by omega) fun gp1 gc1 gl1 hO1 hk1 => ?_)
      refine xo_rd (rd_assign rfl) rfl ?_
      refine xo_nil ?_
      refine xq_seq ?_
    rw [List.nil_append] at hO1
    rw [Nat.zero_add i] at hO1 hk1 ⊢
    focus
      refine xc_seq ?_
      refine xc_region ?_
      refine xo_rd (rd_move rfl) rfl ?_
      refine xo_rd (rd_fieldAddr rfl) rfl ?_
      refine xo_rd (rd_load1 rfl (Cl.o1 rfl)) rfl ?_
      refine xo_rd (rd_move rfl) rfl ?_
      refine xo_rd (rd_addn rfl rfl (by omega) (by omega)) rfl ?_
      refine xo_rd (rd_cast (v' := .slice (slp f.mp f.mc (i + 1) 2) (f.a.ms.length - (i + 1)) (f.mc - (i + 1))) (rd_slLo rfl rfl (by omega) (by omega)) (by rfl)) rfl ?_
      refine xo_ef rfl (ef_appendQS [_, _] _ gl1 (news := (f.a.ms.drop (i + 1)).flatMap mEnc) rfl rfl hO1 rfl (by rw [flat_drop mEnc_len]; exact (hsr _ (by intro z hz; simp [hz])).slpm f.mc (i + 1) 2 (by omega)) (by rw [flat_length mEnc mEnc_len, List.length_drop]) (mEnc_one _) (by decide) (by omega) (by omega) fun gp2 gc2 gl2 hO2 hk2 => ?_)
      refine xo_rd (rd_fieldAddr rfl) rfl ?_
      refine xo_ef rfl (ef_store1 [_] _ rfl rfl (by first | rfl | assumption) rfl rfl rfl ?_)
      refine xo_nil ?_
      refine xq_seq ?_
    rw [← List.flatMap_append, ← List.eraseIdx_eq_take_drop_succ, show i + (f.a.ms.length - (i + 1)) = (f.a.ms.eraseIdx i).length by omega] at hO2
    rw [show i + (f.a.ms.length - (i + 1)) = (f.a.ms.eraseIdx i).length by omega] at hk2 ⊢
    have hF : ∀ L', (∀ z, z ∈ gl2 ++ L → z ∈ L') → Rf.At W L' ⟨{ f.a with ms := f.a.ms.eraseIdx i }, gp2, gc2, f.wp, f.wc, f.gp, f.gc⟩ := fun L' h => ⟨hO2.rs fun z hz => h z (List.mem_append_left _ hz), (hfL L' fun z hz => h z (List.mem_append_right _ hz)).w, (hfL L' fun z hz => h z (List.mem_append_right _ hz)).g, hk2, by dsimp only; omega, hf.wl, hf.gl⟩
    have hF0 : Rf.At W (gl2 ++ L0) ⟨{ f.a with ms := f.a.ms.eraseIdx i }, gp2, gc2, f.wp, f.wc, f.gp, f.gc⟩ := ⟨hO2.rs fun z hz => List.mem_append_left _ hz, hf.w.mono fun z hz => List.mem_append_right _ hz, hf.g.mono fun z hz => List.mem_append_right _ hz, hk2, by dsimp only; omega, hf.wl, hf.gl⟩
    obtain ⟨q, hq⟩ : ∃ q, holdsA f.a w = q := ⟨_, rfl⟩
    have hwl := hf.wl
    refine xc_join (ι := Option Addr × Nat × List Blk) (fun s => Rf.At W (s.2.2 ++ (gl2 ++ L0)) ⟨{ f.a with ms := f.a.ms.eraseIdx i, wt := f.a.wt.filter fun x => !decide (x = w) }, gp2, gc2, s.1, s.2.1, f.gp, f.gc⟩) (fun s => (r6, Obj.cells (rfE 0 0 none 0 0 false 0 0 0 0 false none 0 0 none 0 0).toArray 42 (0, 0)) :: (r3, Obj.cells (Rf.enc ⟨{ f.a with ms := f.a.ms.eraseIdx i, wt := f.a.wt.filter fun x => !decide (x = w) }, gp2, gc2, s.1, s.2.1, f.gp, f.gc⟩).toArray 42 (0, 0)) :: (s.2.2 ++ (gl2 ++ L))) (fun s => [(1, .int .u32 w), (2, .int .u64 now), (3, .pointer (some ⟨r3, 0, none⟩)), (6, .pointer (some ⟨r6, 0, none⟩)), (7, .int .i64 0)]) ?_ ?_
    · by_cases hin : w ∈ f.a.wt
      · obtain ⟨j, hj, hjx, hjw⟩ := ix_at hin
        have hwe : (f.a.wt.filter fun x => !decide (x = w)) = f.a.wt.eraseIdx j := filter_erase (fun x : Int => x) f.a.wt j w (by simpa using hwn) hjw
        have hwl2 : (f.a.wt.eraseIdx j).length = f.a.wt.length - 1 := by rw [List.length_eraseIdx, if_pos hj]
        have hwa := fun L' h => xf_waits' (W := W) (L := L') ⟨{ f.a with ms := f.a.ms.eraseIdx i }, gp2, gc2, f.wp, f.wc, f.gp, f.gc⟩ (hF L' h) w j hjx
        have hwo := fun L' (h : ∀ z, z ∈ L → z ∈ L') => xf_without (W := W) (L := L') f.wp f.a.wt.length f.wc f.a.wt rfl (hfL L' h).w hwl j
        focus
          refine xc_seq ?_
          refine xc_region ?_
          refine xo_rd (rd_loadB rfl Kn.o1 (by rfl)) rfl ?_
          refine xo_rd (rd_move rfl) rfl ?_
          refine xo_ef rfl (ef_call rfl (XF.mono (hwa _ (by intro z hz; simp [hz])) ?_))
          rintro v L' ⟨rfl, rfl⟩
          refine xo_rd (rd_geq rfl rfl) rfl ?_
          refine xo_nil ?_
          refine xq_seq ?_
          refine xc_condt rfl ?_
          refine xc_drawM [0, 1, 0, 0, 12, 18, 63, 127] [0, 1, 0, 0, 12, 18, 63, 127] [] (by kernel_rfl) (by kernel_rfl) (by kernel_rfl) ?_
          refine xm_take 0 (m' := 1) rfl (by kernel_rfl) Sb.a (rd_fieldAddr rfl) rfl (by kernel_rfl) ?_
          refine xm_take 3 (m' := 9) rfl (by kernel_rfl) Sb.a (rd_move rfl) rfl (by kernel_rfl) ?_
          refine xm_two 1 2 (mi := 11) (mk := 13) rfl rfl (by kernel_rfl) rfl rfl (by kernel_rfl) (by kernel_rfl) (ef_rd (rd_load1 rfl (Cl.o1 rfl)) ⟨Sb.a, ?_⟩) (ef_rd (rd_loadB rfl Kn.o1 (by rfl)) ⟨Sb.a, ?_⟩)
          refine xm_one 2 (m' := 15) rfl (by kernel_rfl) rfl (by kernel_rfl) (ef_rd (rd_loadB rfl Kn.o1 (by rfl)) ?_)
          refine ⟨Sb.a, ?_⟩
          refine xm_one 4 (m' := 31) rfl (by kernel_rfl) rfl (by kernel_rfl) (ef_call rfl (XF.mono (hwa _ (by intro z hz; simp [hz])) ?_))
          rintro v L' ⟨rfl, rfl⟩
          refine ⟨Sb.a, ?_⟩
          refine xm_one 5 (m' := 63) rfl (by kernel_rfl) rfl (by kernel_rfl) (ef_call rfl (XF.mono (hwo _ (by intro z hz; simp [hz])) ?_))
          rintro v L' ⟨qq, kk, lb, rfl, hO3, rfl⟩
          refine xmx_seg [_, _] lb _ ?_
          refine ⟨Sb.a, ?_⟩
          refine xm_take 6 (m' := 127) rfl (by kernel_rfl) Sb.a (rd_fieldAddr rfl) rfl (by kernel_rfl) ?_
          refine xm_one 7 (m' := 255) rfl (by kernel_rfl) rfl (by kernel_rfl) (ef_store1 [_] _ rfl rfl (by first | rfl | assumption) rfl rfl rfl ?_)
          refine ⟨Sb.a, ?_⟩
          refine xm_done (by kernel_rfl) ?_
          rotate_left
          refine xm_two 1 4 (mi := 15) (mk := 29) rfl rfl (by kernel_rfl) rfl rfl (by kernel_rfl) (by kernel_rfl) (ef_rd (rd_load1 rfl (Cl.o1 rfl)) ⟨Sb.a, ?_⟩) (ef_call rfl (XF.mono (hwa _ (by intro z hz; simp [hz])) ?_))
          rotate_left
          rintro v L' ⟨rfl, rfl⟩
          refine ⟨Sb.a, ?_⟩
          rotate_right
          refine xm_one 4 (m' := 31) rfl (by kernel_rfl) rfl (by kernel_rfl) (ef_call rfl (XF.mono (hwa _ (by intro z hz; simp [hz])) ?_))
          rintro v L' ⟨rfl, rfl⟩
          refine ⟨Sb.a, ?_⟩
          refine xm_one 5 (m' := 63) rfl (by kernel_rfl) rfl (by kernel_rfl) (ef_call rfl (XF.mono (hwo _ (by intro z hz; simp [hz])) ?_))
          rintro v L' ⟨qq, kk, lb, rfl, hO3, rfl⟩
          refine xmx_seg [_, _] lb _ ?_
          refine ⟨Sb.a, ?_⟩
          refine xm_take 6 (m' := 127) rfl (by kernel_rfl) Sb.a (rd_fieldAddr rfl) rfl (by kernel_rfl) ?_
          refine xm_one 7 (m' := 255) rfl (by kernel_rfl) rfl (by kernel_rfl) (ef_store1 [_] _ rfl rfl (by first | rfl | assumption) rfl rfl rfl ?_)
          refine ⟨Sb.a, ?_⟩
          refine xm_done (by kernel_rfl) ?_
          rotate_left
          refine xm_one 1 (m' := 31) rfl (by kernel_rfl) rfl (by kernel_rfl) (ef_rd (rd_load1 rfl (Cl.o1 rfl)) ?_)
          refine ⟨Sb.a, ?_⟩
          refine xm_one 5 (m' := 63) rfl (by kernel_rfl) rfl (by kernel_rfl) (ef_call rfl (XF.mono (hwo _ (by intro z hz; simp [hz])) ?_))
          rintro v L' ⟨qq, kk, lb, rfl, hO3, rfl⟩
          refine xmx_seg [_, _] lb _ ?_
          refine ⟨Sb.a, ?_⟩
          refine xm_take 6 (m' := 127) rfl (by kernel_rfl) Sb.a (rd_fieldAddr rfl) rfl (by kernel_rfl) ?_
          refine xm_one 7 (m' := 255) rfl (by kernel_rfl) rfl (by kernel_rfl) (ef_store1 [_] _ rfl rfl (by first | rfl | assumption) rfl rfl rfl ?_)
          refine ⟨Sb.a, ?_⟩
          refine xm_done (by kernel_rfl) ?_
          rotate_left
        all_goals exact xq_joined ((qq, kk, lb) : Option Addr × Nat × List Blk) ⟨hO2.rs (by intro z hz; simp [hz]), by dsimp only; rw [hwe]; exact hO3.rs (by intro z hz; simp [hz]), hf.g.mono (by intro z hz; simp [hz]), hk2, by dsimp only; omega, by dsimp only; rw [hwe]; omega, hf.gl⟩ (by simp only [hwe]; rfl) (by repeat (first | exact keep_nil | refine keep_cons rfl ?_))
      · obtain ⟨k, hk⟩ : ∃ k, ixOf f.a.wt w = k := ⟨_, rfl⟩
        have hk0 : k < 0 := by
          by_cases h1 : ixOf f.a.wt w < 0
          · omega
          · exact absurd (ixOf_mem (by omega)) hin
        have hwe : (f.a.wt.filter fun x => !decide (x = w)) = f.a.wt := List.filter_eq_self.2 fun e he => by
          have : e ≠ w := fun h => hin (h ▸ he)
          simp [this]
        have hwa := fun L' h => xf_waits' (W := W) (L := L') ⟨{ f.a with ms := f.a.ms.eraseIdx i }, gp2, gc2, f.wp, f.wc, f.gp, f.gc⟩ (hF L' h) w k hk
        focus
          refine xc_seq ?_
          refine xc_region ?_
          refine xo_rd (rd_loadB rfl Kn.o1 (by rfl)) rfl ?_
          refine xo_rd (rd_move rfl) rfl ?_
          refine xo_ef rfl (ef_call rfl (XF.mono (hwa _ (by intro z hz; simp [hz])) ?_))
          rintro v L' ⟨rfl, rfl⟩
          refine xo_rd (rd_geq rfl rfl) rfl ?_
          refine xo_nil ?_
          refine xq_seq ?_
          refine xc_dec rfl (fun h1 => (by exfalso; omega)) (fun h1 => ?_)
          refine xc_skip ?_
        exact xq_joined ((f.wp, f.wc, []) : Option Addr × Nat × List Blk) ⟨hO2.rs (by intro z hz; simp [hz]), by dsimp only; rw [hwe]; exact hf.w.mono (by intro z hz; simp [hz]), hf.g.mono (by intro z hz; simp [hz]), hk2, by dsimp only; omega, by dsimp only; rw [hwe]; exact hwl, hf.gl⟩ (by simp only [hwe]; rfl) (by repeat (first | exact keep_nil | refine keep_cons rfl ?_))
    · rintro ⟨qq, kk, lb⟩ hFb0
      dsimp only at hFb0 ⊢
      have hof : outF f.a w = { f.a with ms := f.a.ms.eraseIdx i, wt := f.a.wt.filter fun x => !decide (x = w) } := by unfold outF; rw [hfe]
      have hho := fun L' => xf_rholds (W := W) (L := L') ⟨{ f.a with ms := f.a.ms.eraseIdx i, wt := f.a.wt.filter fun x => !decide (x = w) }, gp2, gc2, qq, kk, f.gp, f.gc⟩ w q hq
      have hs2 : ∀ z, z ∈ lb ++ (gl2 ++ L0) → z ∈ lb ++ (gl2 ++ L) := fun z hz => (List.mem_append.1 hz).elim (fun h => List.mem_append_left _ h) (fun h => List.mem_append_right _ ((List.mem_append.1 h).elim (fun h => List.mem_append_left _ h) (fun h => List.mem_append_right _ (hs z h))))
      have hen := fun L' (h : ∀ z, z ∈ lb ++ (gl2 ++ L) → z ∈ L') => xf_rend (W := W) (L := L') (lb ++ (gl2 ++ L0)) (fun z hz => h z (hs2 z hz)) ⟨{ f.a with ms := f.a.ms.eraseIdx i, wt := f.a.wt.filter fun x => !decide (x = w) }, gp2, gc2, qq, kk, f.gp, f.gc⟩ hFb0 now hg
      rw [hE]
      cases q with
      | true =>
        have hJ : leaveF f.a w now = endF { f.a with ms := f.a.ms.eraseIdx i, wt := f.a.wt.filter fun x => !decide (x = w) } now := by unfold leaveF; rw [hb, hq, hof]; rfl
        rw [hJ]
        focus
          refine xc_seq ?_
          refine xc_seq ?_
          refine xc_region ?_
          refine xo_rd (rd_loadB rfl Kn.o1 (by rfl)) rfl ?_
          refine xo_rd (rd_move rfl) rfl ?_
          refine xo_ef rfl (ef_call rfl (XF.mono (hho _) ?_))
          rintro v L' ⟨rfl, rfl⟩
          refine xo_nil ?_
          refine xq_seq ?_
          refine xc_condt rfl ?_
          refine xc_seq ?_
          refine xc_region ?_
          refine xo_rd (rd_loadB rfl Kn.o1 (by rfl)) rfl ?_
          refine xo_rd (rd_move rfl) rfl ?_
          refine xo_ef rfl (ef_call rfl (XF.mono (hen _ (by intro z hz; simp [hz])) ?_))
          rintro v L' ⟨y, N, rfl, hya, hyat, rfl⟩
          refine xo_seg [_, _] N _ ?_
          refine xo_ef rfl (ef_storeB [] _ rfl rfl (by first | rfl | assumption) rfl rfl rfl ?_)
          refine xo_rd (rd_assign rfl) rfl ?_
          refine xo_nil ?_
          refine xq_seq ?_
          refine xc_ret ?_
          refine xq_then_ret ?_
        exact xq_retB2 (.inl rfl) Tryz.results70 rfl rfl Kn.o0 rfl (List.sublist_append_right [_, _] _) ⟨y, N ++ (lb ++ gl2), rfl, hya, by simpa only [List.append_assoc] using hyat, by simp only [List.append_assoc]; rfl⟩
      | false =>
        have hJ : leaveF f.a w now = { f.a with ms := f.a.ms.eraseIdx i, wt := f.a.wt.filter fun x => !decide (x = w) } := by unfold leaveF; rw [hb, hq, hof]; rfl
        rw [hJ]
        focus
          refine xc_seq ?_
          refine xc_seq ?_
          refine xc_region ?_
          refine xo_rd (rd_loadB rfl Kn.o1 (by rfl)) rfl ?_
          refine xo_rd (rd_move rfl) rfl ?_
          refine xo_ef rfl (ef_call rfl (XF.mono (hho _) ?_))
          rintro v L' ⟨rfl, rfl⟩
          refine xo_nil ?_
          refine xq_seq ?_
          refine xc_condf rfl ?_
          refine xc_skip ?_
          refine xq_seq ?_
          refine xc_seq ?_
          refine xc_region ?_
          refine xo_rd (rd_loadB rfl Kn.o1 (by rfl)) rfl ?_
          refine xo_ef rfl (ef_storeB [] _ rfl rfl (by first | rfl | assumption) rfl rfl rfl ?_)
          refine xo_rd (rd_assign rfl) rfl ?_
          refine xo_nil ?_
          refine xq_seq ?_
          refine xc_ret ?_
        exact xq_retB2 (.inl rfl) Tryz.results70 rfl rfl Kn.o0 rfl (List.sublist_append_right [_, _] _) ⟨⟨{ f.a with ms := f.a.ms.eraseIdx i, wt := f.a.wt.filter fun x => !decide (x = w) }, gp2, gc2, qq, kk, f.gp, f.gc⟩, lb ++ gl2, rfl, rfl, by simpa only [List.append_assoc] using hFb0, by simp only [List.append_assoc]; rfl⟩
end Go.Proofs.YtmdeajdaeihniaaGreat.X
/-
  Chapter 13: the reference's floor: what else may be asked of it: walks of my own.
-/
namespace Go.Proofs.YtmdeajdaeihniaaGreat.X
open Go Go.RowKit
set_option linter.unusedVariables false
set_option linter.unusedSimpArgs false
set_option maxHeartbeats 800000 in
theorem xf_rRelease {W : World} {L : List Blk} (L0 : List Blk) (hs : ∀ z, z ∈ L0 → z ∈ L) (f : Rf) (hf : f.At W L0) (w now : Int) (hg : f.a.gs.length < 1000000) : XF Tryz.prog W 74 #[.agg f.enc.toArray, .int .u32 w, .int .u64 now] L (fun v L' => ∃ y N, v = .tuple #[.agg (Rf.enc y).toArray, .int .i64 (relE f.a w)] ∧ y.a = relF f.a w now ∧ y.At W (N ++ L0) ∧ L' = N ++ L) := by
  have hfL : ∀ L', (∀ z, z ∈ L → z ∈ L') → f.At W L' := fun L' h => hf.mono fun z hz => h z (hs z hz)
  obtain ⟨k, hk⟩ : ∃ k, ixOf (f.a.ms.map (·.1)) w = k := ⟨_, rfl⟩
  have hfi : ∀ L', (∀ z, z ∈ L → z ∈ L') → XF Tryz.prog W 104 #[.agg f.enc.toArray, .int .u32 w] L' (fun v L'' => v = .int .i64 k ∧ L'' = L') := fun L' h => xf_find' f (hfL L' h) w k hk
  obtain ⟨q, hq⟩ : ∃ q, holdsA f.a w = q := ⟨_, rfl⟩
  have hho := fun L' => xf_rholds (W := W) (L := L') f w q hq
  have hen := fun L' (h : ∀ z, z ∈ L → z ∈ L') => xf_rend (W := W) (L := L') L0 (fun z hz => h z (hs z hz)) f hf now hg
  refine xf_enter (args := [_, _, _]) Tryz.func74 rfl Tryz.ntmps74 rfl ?_
  cases hb : isM f.a.ms w with
  | false =>
    have hE : relE f.a w = 130 := by unfold relE; rw [hb]; rfl
    have hJ : relF f.a w now = f.a := by unfold relF; rw [hE]; rfl
    have hk0 : k < 0 := hk ▸ notM_ix hb
    rw [hE, hJ]
    focus
      refine xc_seq ?_
      refine xc_region ?_
      refine xo_ef rfl (ef_box rfl fun r3 => ?_)
      refine xo_ef rfl (ef_alloc fun r6 => ?_)
      refine xo_rd (rd_assign rfl) rfl ?_
      refine xo_nil ?_
      refine xq_seq ?_
      refine xc_seq ?_
      refine xc_seq ?_
      refine xc_region ?_
      refine xo_rd (rd_loadB rfl Kn.o1 (by rfl)) rfl ?_
      refine xo_rd (rd_move rfl) rfl ?_
      refine xo_ef rfl (ef_call rfl (XF.mono (hfi _ (by intro z hz; simp [hz])) ?_))
      rintro v L' ⟨rfl, rfl⟩
      refine xo_rd (rd_lss rfl rfl) rfl ?_
      refine xo_nil ?_
      refine xq_seq ?_
      refine xc_dec rfl (fun h1 => ?_) (fun h1 => (by exfalso; omega))
      refine xc_seq ?_
      refine xc_region ?_
      refine xo_rd (rd_loadB rfl Kn.o1 (by rfl)) rfl ?_
      refine xo_ef rfl (ef_storeB [] _ rfl rfl (by first | rfl | assumption) rfl rfl rfl ?_)
      refine xo_rd (rd_assign rfl) rfl ?_
      refine xo_nil ?_
      refine xq_seq ?_
      refine xc_ret ?_
      refine xq_then_ret ?_
    exact xq_retB2 (.inl rfl) Tryz.results74 rfl rfl Kn.o0 rfl (List.sublist_append_right [_, _] _) ⟨f, [], rfl, rfl, hf, rfl⟩
  | true =>
    have hk0 : 0 ≤ k := hk ▸ isM_ix hb
    cases q with
    | false =>
      have hE : relE f.a w = 133 := by unfold relE; rw [hb, hq]; rfl
      have hJ : relF f.a w now = f.a := by unfold relF; rw [hE]; rfl
      rw [hE, hJ]
      focus
        refine xc_seq ?_
        refine xc_region ?_
        refine xo_ef rfl (ef_box rfl fun r3 => ?_)
        refine xo_ef rfl (ef_alloc fun r6 => ?_)
        refine xo_rd (rd_assign rfl) rfl ?_
        refine xo_nil ?_
        refine xq_seq ?_
        refine xc_seq ?_
        refine xc_seq ?_
        refine xc_region ?_
        refine xo_rd (rd_loadB rfl Kn.o1 (by rfl)) rfl ?_
        refine xo_rd (rd_move rfl) rfl ?_
        refine xo_ef rfl (ef_call rfl (XF.mono (hfi _ (by intro z hz; simp [hz])) ?_))
        rintro v L' ⟨rfl, rfl⟩
        refine xo_rd (rd_lss rfl rfl) rfl ?_
        refine xo_nil ?_
        refine xq_seq ?_
        refine xc_dec rfl (fun h1 => (by exfalso; omega)) (fun h1 => ?_)
        refine xc_skip ?_
        refine xq_seq ?_
        refine xc_seq ?_
        refine xc_seq ?_
        refine xc_region ?_
        refine xo_rd (rd_loadB rfl Kn.o1 (by rfl)) rfl ?_
        refine xo_rd (rd_move rfl) rfl ?_
        refine xo_ef rfl (ef_call rfl (XF.mono (hho _) ?_))
        rintro v L' ⟨rfl, rfl⟩
        refine xo_rd (rd_not rfl) rfl ?_
        refine xo_nil ?_
        refine xq_seq ?_
        refine xc_condt rfl ?_
        refine xc_seq ?_
        refine xc_region ?_
        refine xo_rd (rd_loadB rfl Kn.o1 (by rfl)) rfl ?_
        refine xo_ef rfl (ef_storeB [] _ rfl rfl (by first | rfl | assumption) rfl rfl rfl ?_)
        refine xo_rd (rd_assign rfl) rfl ?_
        refine xo_nil ?_
        refine xq_seq ?_
        refine xc_ret ?_
        refine xq_then_ret ?_
      exact xq_retB2 (.inl rfl) Tryz.results74 rfl rfl Kn.o0 rfl (List.sublist_append_right [_, _] _) ⟨f, [], rfl, rfl, hf, rfl⟩
    | true =>
      have hE : relE f.a w = 0 := by unfold relE; rw [hb, hq]; rfl
      have hJ : relF f.a w now = endF f.a now := by unfold relF; rw [hE]; rfl
      rw [hE, hJ]
      focus
        refine xc_seq ?_
        refine xc_region ?_
        refine xo_ef rfl (ef_box rfl fun r3 => ?_)
        refine xo_ef rfl (ef_alloc fun r6 => ?_)
        refine xo_rd (rd_assign rfl) rfl ?_
        refine xo_nil ?_
        refine xq_seq ?_
        refine xc_seq ?_
        refine xc_seq ?_
        refine xc_region ?_
        refine xo_rd (rd_loadB rfl Kn.o1 (by rfl)) rfl ?_
        refine xo_rd (rd_move rfl) rfl ?_
        refine xo_ef rfl (ef_call rfl (XF.mono (hfi _ (by intro z hz; simp [hz])) ?_))
        rintro v L' ⟨rfl, rfl⟩
        refine xo_rd (rd_lss rfl rfl) rfl ?_
        refine xo_nil ?_
        refine xq_seq ?_
        refine xc_dec rfl (fun h1 => (by exfalso; omega)) (fun h1 => ?_)
        refine xc_skip ?_
        refine xq_seq ?_
        refine xc_seq ?_
        refine xc_seq ?_
        refine xc_region ?_
        refine xo_rd (rd_loadB rfl Kn.o1 (by rfl)) rfl ?_
        refine xo_rd (rd_move rfl) rfl ?_
        refine xo_ef rfl (ef_call rfl (XF.mono (hho _) ?_))
        rintro v L' ⟨rfl, rfl⟩
        refine xo_rd (rd_not rfl) rfl ?_
        refine xo_nil ?_
        refine xq_seq ?_
        refine xc_condf rfl ?_
        refine xc_skip ?_
        refine xq_seq ?_
        refine xc_seq ?_
        refine xc_region ?_
        refine xo_rd (rd_loadB rfl Kn.o1 (by rfl)) rfl ?_
        refine xo_rd (rd_move rfl) rfl ?_
        refine xo_ef rfl (ef_call rfl (XF.mono (hen _ (by intro z hz; simp [hz])) ?_))
        rintro v L' ⟨y, N, rfl, hya, hyat, rfl⟩
        refine xo_seg [_, _] N _ ?_
        refine xo_ef rfl (ef_storeB [] _ rfl rfl (by first | rfl | assumption) rfl rfl rfl ?_)
        refine xo_rd (rd_assign rfl) rfl ?_
        refine xo_nil ?_
        refine xq_seq ?_
        refine xc_ret ?_
      exact xq_retB2 (.inl rfl) Tryz.results74 rfl rfl Kn.o0 rfl (List.sublist_append_right [_, _] _) ⟨y, N, rfl, hya, hyat, rfl⟩
set_option maxHeartbeats 800000 in
theorem xf_rHeard {W : World} {L : List Blk} (L0 : List Blk) (hs : ∀ z, z ∈ L0 → z ∈ L) (f : Rf) (hf : f.At W L0) (w now : Int) (k : Bool) : XF Tryz.prog W 35 #[.agg f.enc.toArray, .int .u32 w, .int .u64 now, .bool k] L (fun v L' => ∃ y N, v = .tuple #[.agg (Rf.enc y).toArray, .bool (holdsA f.a w)] ∧ y.a = heardF f.a w now k ∧ y.At W (N ++ L0) ∧ L' = N ++ L) := by
  obtain ⟨q, hq⟩ : ∃ q, holdsA f.a w = q := ⟨_, rfl⟩
  have hho := fun L' => xf_rholds (W := W) (L := L') f w q hq
  refine xf_enter (args := [_, _, _, _]) Tryz.func35 rfl Tryz.ntmps35 rfl ?_
  rw [hq]
  cases q with
  | false =>
    have hJ : heardF f.a w now k = f.a := by unfold heardF; rw [hq]; rfl
    rw [hJ]
    focus
      refine xc_seq ?_
      refine xc_region ?_
      refine xo_ef rfl (ef_box rfl fun r4 => ?_)
      refine xo_ef rfl (ef_alloc fun r8 => ?_)
      refine xo_rd (rd_assign rfl) rfl ?_
      refine xo_nil ?_
      refine xq_seq ?_
      refine xc_seq ?_
      refine xc_seq ?_
      refine xc_region ?_
      refine xo_rd (rd_loadB rfl Kn.o1 (by rfl)) rfl ?_
      refine xo_rd (rd_move rfl) rfl ?_
      refine xo_ef rfl (ef_call rfl (XF.mono (hho _) ?_))
      rintro v L' ⟨rfl, rfl⟩
      refine xo_rd (rd_not rfl) rfl ?_
      refine xo_nil ?_
      refine xq_seq ?_
      refine xc_condt rfl ?_
      refine xc_seq ?_
      refine xc_region ?_
      refine xo_rd (rd_loadB rfl Kn.o1 (by rfl)) rfl ?_
      refine xo_ef rfl (ef_storeB [] _ rfl rfl (by first | rfl | assumption) rfl rfl rfl ?_)
      refine xo_rd (rd_assign rfl) rfl ?_
      refine xo_nil ?_
      refine xq_seq ?_
      refine xc_ret ?_
      refine xq_then_ret ?_
    exact xq_retB2 (.inl rfl) Tryz.results35 rfl rfl Kn.o0 rfl (List.sublist_append_right [_, _] _) ⟨f, [], rfl, rfl, hf, rfl⟩
  | true =>
    have hJ : heardF f.a w now k = { f.a with heard := now, pend := f.a.pend && !k } := by unfold heardF; rw [hq]; rfl
    rw [hJ]
    cases k with
    | false =>
      focus
        refine xc_seq ?_
        refine xc_region ?_
        refine xo_ef rfl (ef_box rfl fun r4 => ?_)
        refine xo_ef rfl (ef_alloc fun r8 => ?_)
        refine xo_rd (rd_assign rfl) rfl ?_
        refine xo_nil ?_
        refine xq_seq ?_
        refine xc_seq ?_
        refine xc_seq ?_
        refine xc_region ?_
        refine xo_rd (rd_loadB rfl Kn.o1 (by rfl)) rfl ?_
        refine xo_rd (rd_move rfl) rfl ?_
        refine xo_ef rfl (ef_call rfl (XF.mono (hho _) ?_))
        rintro v L' ⟨rfl, rfl⟩
        refine xo_rd (rd_not rfl) rfl ?_
        refine xo_nil ?_
        refine xq_seq ?_
        refine xc_condf rfl ?_
        refine xc_skip ?_
        refine xq_seq ?_
        refine xc_seq ?_
        refine xc_region ?_
        refine xo_rd (rd_move rfl) rfl ?_
        refine xo_rd (rd_fieldAddr rfl) rfl ?_
        refine xo_ef rfl (ef_store1 [_] _ rfl rfl (by first | rfl | assumption) rfl rfl rfl ?_)
        refine xo_nil ?_
        refine xq_seq ?_
        refine xc_seq ?_
        refine xc_seq ?_
        refine xc_region ?_
        refine xo_rd (rd_move rfl) rfl ?_
        refine xo_nil ?_
        refine xq_seq ?_
        refine xc_condf rfl ?_
        refine xc_skip ?_
        refine xq_seq ?_
        refine xc_seq ?_
        refine xc_region ?_
        refine xo_rd (rd_loadB rfl Kn.o1 (by rfl)) rfl ?_
        refine xo_ef rfl (ef_storeB [] _ rfl rfl (by first | rfl | assumption) rfl rfl rfl ?_)
        refine xo_rd (rd_assign rfl) rfl ?_
        refine xo_nil ?_
        refine xq_seq ?_
        refine xc_ret ?_
      exact xq_retB2 (.inl rfl) Tryz.results35 rfl rfl Kn.o0 rfl (List.sublist_append_right [_, _] _) ⟨⟨{ f.a with heard := now, pend := f.a.pend && !false }, f.mp, f.mc, f.wp, f.wc, f.gp, f.gc⟩, [], by simp only [Rf.enc, Bool.not_false, Bool.and_true]; rfl, rfl, ⟨hf.m, hf.w, hf.g, hf.mc, hf.ml, hf.wl, hf.gl⟩, rfl⟩
    | true =>
      focus
        refine xc_seq ?_
        refine xc_region ?_
        refine xo_ef rfl (ef_box rfl fun r4 => ?_)
        refine xo_ef rfl (ef_alloc fun r8 => ?_)
        refine xo_rd (rd_assign rfl) rfl ?_
        refine xo_nil ?_
        refine xq_seq ?_
        refine xc_seq ?_
        refine xc_seq ?_
        refine xc_region ?_
        refine xo_rd (rd_loadB rfl Kn.o1 (by rfl)) rfl ?_
        refine xo_rd (rd_move rfl) rfl ?_
        refine xo_ef rfl (ef_call rfl (XF.mono (hho _) ?_))
        rintro v L' ⟨rfl, rfl⟩
        refine xo_rd (rd_not rfl) rfl ?_
        refine xo_nil ?_
        refine xq_seq ?_
        refine xc_condf rfl ?_
        refine xc_skip ?_
        refine xq_seq ?_
        refine xc_seq ?_
        refine xc_region ?_
        refine xo_rd (rd_move rfl) rfl ?_
        refine xo_rd (rd_fieldAddr rfl) rfl ?_
        refine xo_ef rfl (ef_store1 [_] _ rfl rfl (by first | rfl | assumption) rfl rfl rfl ?_)
        refine xo_nil ?_
        refine xq_seq ?_
        refine xc_seq ?_
        refine xc_seq ?_
        refine xc_region ?_
        refine xo_rd (rd_move rfl) rfl ?_
        refine xo_nil ?_
        refine xq_seq ?_
        refine xc_condt rfl ?_
        refine xc_region ?_
        refine xo_rd (rd_fieldAddr rfl) rfl ?_
        refine xo_ef rfl (ef_store1 [_] _ rfl rfl (by first | rfl | assumption) rfl rfl rfl ?_)
        refine xo_nil ?_
        refine xq_seq ?_
        refine xc_seq ?_
        refine xc_region ?_
        refine xo_rd (rd_loadB rfl Kn.o1 (by rfl)) rfl ?_
        refine xo_ef rfl (ef_storeB [] _ rfl rfl (by first | rfl | assumption) rfl rfl rfl ?_)
        refine xo_rd (rd_assign rfl) rfl ?_
        refine xo_nil ?_
        refine xq_seq ?_
        refine xc_ret ?_
      exact xq_retB2 (.inl rfl) Tryz.results35 rfl rfl Kn.o0 rfl (List.sublist_append_right [_, _] _) ⟨⟨{ f.a with heard := now, pend := f.a.pend && !true }, f.mp, f.mc, f.wp, f.wc, f.gp, f.gc⟩, [], by simp only [Rf.enc, Bool.not_true, Bool.and_false]; rfl, rfl, ⟨hf.m, hf.w, hf.g, hf.mc, hf.ml, hf.wl, hf.gl⟩, rfl⟩
theorem xf_rNewE {W : World} {L : List Blk} (b s : Int) (hb : b < 0 ∨ 32 < b ∨ s = 0) : XF Tryz.prog W 26 #[.int .i64 b, .int .u64 s] L (fun v L' => v = .tuple #[.agg (rfE 0 0 none 0 0 false 0 0 0 0 false none 0 0 none 0 0).toArray, .int .i64 2] ∧ L' = L) := by
  refine xf_enter (args := [_, _]) Tryz.func26 rfl Tryz.ntmps26 rfl ?_
  focus
    refine xc_seq ?_
    refine xc_region ?_
    refine xo_ef rfl (ef_alloc fun r4 => ?_)
    refine xo_rd (rd_assign rfl) rfl ?_
    refine xo_nil ?_
    refine xq_seq ?_
    refine xc_seq ?_
    refine xc_seq ?_
    refine xc_region ?_
    refine xo_rd (rd_move rfl) rfl ?_
    refine xo_rd (rd_lss rfl rfl) rfl ?_
    refine xo_rd (rd_move rfl) rfl ?_
    refine xo_dec 8 rfl (fun hz1 => ?_) (fun hz1 => ?_)
    refine xo_gskip rfl rfl rfl rfl ?_
    refine xo_gskip rfl rfl rfl rfl ?_
    refine xo_rd (rd_pickt rfl rfl) rfl ?_
    refine xo_rd (rd_move rfl) rfl ?_
    refine xo_gskip rfl rfl rfl rfl ?_
    refine xo_gskip rfl rfl rfl rfl ?_
    refine xo_rd (rd_pickt rfl rfl) rfl ?_
    refine xo_nil ?_
    refine xq_seq ?_
    refine xc_condt rfl ?_
    refine xc_seq ?_
    refine xc_region ?_
    refine xo_rd (rd_cast (v' := .agg (rfE 0 0 none 0 0 false 0 0 0 0 false none 0 0 none 0 0).toArray) (rd_build (T := 42) rfl rfl rfl) (by kernel_rfl)) rfl ?_
    refine xo_ef rfl (ef_storeB [] _ rfl rfl (by first | rfl | assumption) rfl rfl rfl ?_)
    refine xo_rd (rd_assign rfl) rfl ?_
    refine xo_nil ?_
    refine xq_seq ?_
    refine xc_ret ?_
    refine xq_then_ret ?_
    rotate_left
    refine xo_grd rfl rfl (rd_move rfl) rfl ?_
    refine xo_grd rfl rfl (rd_gtr rfl rfl) rfl ?_
    refine xo_rd (rd_pickf rfl rfl) rfl ?_
    refine xo_rd (rd_move rfl) rfl ?_
    refine xo_dec 12 rfl (fun hz2 => ?_) (fun hz2 => ?_)
    refine xo_gskip rfl rfl rfl rfl ?_
    refine xo_gskip rfl rfl rfl rfl ?_
    refine xo_rd (rd_pickt rfl rfl) rfl ?_
    refine xo_nil ?_
    refine xq_seq ?_
    refine xc_condt rfl ?_
    refine xc_seq ?_
    refine xc_region ?_
    refine xo_rd (rd_cast (v' := .agg (rfE 0 0 none 0 0 false 0 0 0 0 false none 0 0 none 0 0).toArray) (rd_build (T := 42) rfl rfl rfl) (by kernel_rfl)) rfl ?_
    refine xo_ef rfl (ef_storeB [] _ rfl rfl (by first | rfl | assumption) rfl rfl rfl ?_)
    refine xo_rd (rd_assign rfl) rfl ?_
    refine xo_nil ?_
    refine xq_seq ?_
    refine xc_ret ?_
    refine xq_then_ret ?_
    rotate_left
    refine xo_grd rfl rfl (rd_move rfl) rfl ?_
    refine xo_grd rfl rfl (rd_eql rfl rfl) rfl ?_
    refine xo_rd (rd_pickf rfl rfl) rfl ?_
    refine xo_nil ?_
    refine xq_seq ?_
    refine xc_dec rfl (fun hz3 => ?_) (fun hz3 => (by exfalso; omega))
    refine xc_seq ?_
    refine xc_region ?_
    refine xo_rd (rd_cast (v' := .agg (rfE 0 0 none 0 0 false 0 0 0 0 false none 0 0 none 0 0).toArray) (rd_build (T := 42) rfl rfl rfl) (by kernel_rfl)) rfl ?_
    refine xo_ef rfl (ef_storeB [] _ rfl rfl (by first | rfl | assumption) rfl rfl rfl ?_)
    refine xo_rd (rd_assign rfl) rfl ?_
    refine xo_nil ?_
    refine xq_seq ?_
    refine xc_ret ?_
    refine xq_then_ret ?_
    rotate_left
  all_goals exact xq_retB2 (.inl rfl) Tryz.results26 rfl rfl Kn.o0 rfl (List.sublist_cons_self _ _) ⟨rfl, rfl⟩
def newRf (b s : Int) : Rf := ⟨newFa b s, none, 0, none, 0, none, 0⟩
theorem newRf_at {W : World} (b s : Int) : (newRf b s).At W [] := ⟨Rs.nil, Rs.nil, Rs.nil, Nat.le_refl _, Nat.zero_le _, Nat.zero_le _, Nat.zero_le _⟩
theorem xf_rNew {W : World} {L : List Blk} (b s : Int) (hb : 0 ≤ b ∧ b ≤ 32) (hs : 1 ≤ s) : XF Tryz.prog W 26 #[.int .i64 b, .int .u64 s] L (fun v L' => v = .tuple #[.agg (newRf b s).enc.toArray, .int .i64 0] ∧ L' = L) := by
  refine xf_enter (args := [_, _]) Tryz.func26 rfl Tryz.ntmps26 rfl ?_
  focus
    refine xc_seq ?_
    refine xc_region ?_
    refine xo_ef rfl (ef_alloc fun r4 => ?_)
    refine xo_rd (rd_assign rfl) rfl ?_
    refine xo_nil ?_
    refine xq_seq ?_
    refine xc_seq ?_
    refine xc_seq ?_
    refine xc_region ?_
    refine xo_rd (rd_move rfl) rfl ?_
    refine xo_rd (rd_lss rfl rfl) rfl ?_
    refine xo_rd (rd_move rfl) rfl ?_
    refine xo_dec 8 rfl (fun hz1 => (by exfalso; omega)) (fun hz1 => ?_)
    refine xo_grd rfl rfl (rd_move rfl) rfl ?_
    refine xo_grd rfl rfl (rd_gtr rfl rfl) rfl ?_
    refine xo_rd (rd_pickf rfl rfl) rfl ?_
    refine xo_rd (rd_move rfl) rfl ?_
    refine xo_dec 12 rfl (fun hz2 => (by exfalso; omega)) (fun hz2 => ?_)
    refine xo_grd rfl rfl (rd_move rfl) rfl ?_
    refine xo_grd rfl rfl (rd_eql rfl rfl) rfl ?_
    refine xo_rd (rd_pickf rfl rfl) rfl ?_
    refine xo_nil ?_
    refine xq_seq ?_
    refine xc_dec rfl (fun hz3 => (by exfalso; omega)) (fun hz3 => ?_)
    refine xc_skip ?_
    refine xq_seq ?_
    refine xc_seq ?_
    refine xc_region ?_
    refine xo_rd (rd_move rfl) rfl ?_
    refine xo_rd (rd_move rfl) rfl ?_
    refine xo_rd (rd_cast (v' := .agg (newRf b s).enc.toArray) (rd_build (T := 42) rfl rfl rfl) (by kernel_rfl)) rfl ?_
    refine xo_ef rfl (ef_storeB [] _ rfl rfl (by first | rfl | assumption) rfl rfl rfl ?_)
    refine xo_rd (rd_assign rfl) rfl ?_
    refine xo_nil ?_
    refine xq_seq ?_
    refine xc_ret ?_
  exact xq_retB2 (.inl rfl) Tryz.results26 rfl rfl Kn.o0 rfl (List.sublist_cons_self _ _) ⟨rfl, rfl⟩
end Go.Proofs.YtmdeajdaeihniaaGreat.X
