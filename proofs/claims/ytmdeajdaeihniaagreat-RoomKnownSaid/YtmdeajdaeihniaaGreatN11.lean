/-
  Texts of my own, put together: walks and laws for this seat. No condition.
-/
import Derived.Test.YtmdeajdaeihniaaGreatN10
/-
  Chapter 25: the reference's room: who joins: a walk of my own.
-/
namespace Go.Proofs.YtmdeajdaeihniaaGreat.X
open Go Go.RowKit
set_option linter.unusedVariables false
set_option linter.unusedSimpArgs false
theorem Rr.ro_cl {W : World} {L : List Blk} {x : Rr} {r : Nat} (h : (r, Obj.cells x.enc.toArray 45 (0, 0)) ∈ L) : ∀ (j : Nat) (u : Value), (roE x.most x.rp x.ms.length x.rc)[j]? = some u → Cl W L r (0 + j) u := fun j u hj => by
  have hl : j < (roE x.most x.rp x.ms.length x.rc).length := (List.getElem?_eq_some_iff.1 hj).1
  refine Cl.own h ?_
  rw [Nat.zero_add]
  have : x.enc[j]? = some u := by
    unfold Rr.enc rrE
    rw [List.append_assoc, List.getElem?_append_left hl]; exact hj
  simpa using this
def nwX (id : Int) : Wx := ⟨⟨id, false, []⟩, none, 0⟩
set_option maxHeartbeats 1600000 in
theorem xf_r2Join {W : World} {L : List Blk} (L0 : List Blk) (hs : ∀ z, z ∈ L0 → z ∈ L) (x : Rr) (hx : x.At W L0) (m : Mb) (hsrt : (x.f.a.ms.map (·.1)).Pairwise (· < ·)) (h32 : x.f.a.ms.length ≤ 32) (hml : x.ms.length < 1000) (hxl : x.ws.length < 1000) : XF Tryz.prog W 28 #[.agg x.enc.toArray, .agg m.enc.toArray] L (fun v L' => ∃ y N, v = .tuple #[.agg (Rr.enc y).toArray, .int .i64 (jnE x.ra m)] ∧ y.ra = jnA x.ra m ∧ y.At W (N ++ L0) ∧ L' = N ++ L) := by
  have hxL : ∀ L', (∀ z, z ∈ L → z ∈ L') → x.At W L' := fun L' h => hx.mono fun z hz => h z (hs z hz)
  refine xf_enter (args := [_, _]) Tryz.func28 rfl Tryz.ntmps28 rfl ?_
  by_cases hid : 2147483647 < m.id
  · have hE : jnE x.ra m = 2 := by unfold jnE; rw [if_pos hid]
    have hJ : jnA x.ra m = x.ra := by unfold jnA; rw [if_neg (by rw [hE]; decide)]
    rw [hE, hJ]
    focus
      refine xc_seq ?_
      refine xc_region ?_
      refine xo_ef rfl (ef_box rfl fun r2 => ?_)
      refine xo_ef rfl (ef_box rfl fun r3 => ?_)
      refine xo_ef rfl (ef_alloc fun r4 => ?_)
      refine xo_rd (rd_assign rfl) rfl ?_
      refine xo_nil ?_
      refine xq_seq ?_
      refine xc_seq ?_
      refine xc_seq ?_
      refine xc_region ?_
      refine xo_rd (rd_fieldAddr rfl) rfl ?_
      refine xo_rd (rd_load1 rfl (Cl.o1 rfl)) rfl ?_
      refine xo_rd (rd_gtr rfl rfl) rfl ?_
      refine xo_nil ?_
      refine xq_seq ?_
      refine xc_dec rfl (fun h1 => ?_) (fun h1 => (by exfalso; omega))
      refine xc_seq ?_
      refine xc_region ?_
      refine xo_rd (rd_loadB rfl Kn.o2 (by rfl)) rfl ?_
      refine xo_ef rfl (ef_storeB [] _ rfl rfl (by first | rfl | assumption) rfl rfl rfl ?_)
      refine xo_rd (rd_assign rfl) rfl ?_
      refine xo_nil ?_
      refine xq_seq ?_
      refine xc_ret ?_
      refine xq_then_ret ?_
    exact xq_retB2 (.inl rfl) Tryz.results28 rfl rfl Kn.o0 rfl (List.sublist_append_right [_, _, _] _) ⟨x, [], rfl, rfl, hx, rfl⟩
  · obtain ⟨e, he⟩ : ∃ e, joinR x.most x.ms m = e := ⟨_, rfl⟩
    have hE : jnE x.ra m = e := by unfold jnE; rw [if_neg hid]; exact he
    have hrj := fun L' (h : ∀ z, z ∈ L → z ∈ L') => xf_rjoin (W := W) (L := L') L0 x.most x.ms x.rp x.rc hx.r (fun z hz => h z (hs z hz)) hx.ml m
    rw [he] at hrj
    by_cases he0 : e = 0
    · subst he0
      have hjl : joinL x.most x.ms m = x.ms ++ [m] := by unfold joinL; rw [if_pos he]
      rw [hjl] at hrj
      have hJ : jnA x.ra m = ⟨x.most, x.ms ++ [m], joinF x.f.a m.id m.mod, x.ra.ws ++ [⟨m.id, false, []⟩]⟩ := by unfold jnA; rw [if_pos hE]; rfl
      rw [hE, hJ]
      have hid0 : 0 ≤ m.id := by
        have h1 : m.right := by
          apply Classical.byContradiction
          intro h; unfold joinR at he; rw [if_pos h] at he; cases he
        unfold Mb.right at h1
        omega
      have hfj := fun L' lo (h : ∀ z, z ∈ lo ++ L0 → z ∈ L') => xf_rJoin (W := W) (L := L') (lo ++ L0) h x.f (hx.f.mono fun z hz => List.mem_append_right _ hz) m.id m.mod hsrt h32
      have hsl : ∀ lo : List Blk, ∀ z, z ∈ lo ++ L0 → z ∈ lo ++ L := fun lo z hz => (List.mem_append.1 hz).elim (fun h => List.mem_append_left _ h) (fun h => List.mem_append_right _ (hs z h))
      focus
        refine xc_seq ?_
        refine xc_region ?_
        refine xo_ef rfl (ef_box rfl fun r2 => ?_)
        refine xo_ef rfl (ef_box rfl fun r3 => ?_)
        refine xo_ef rfl (ef_alloc fun r4 => ?_)
        refine xo_rd (rd_assign rfl) rfl ?_
        refine xo_nil ?_
        refine xq_seq ?_
        refine xc_seq ?_
        refine xc_seq ?_
        refine xc_region ?_
        refine xo_rd (rd_fieldAddr rfl) rfl ?_
        refine xo_rd (rd_load1 rfl (Cl.o1 rfl)) rfl ?_
        refine xo_rd (rd_gtr rfl rfl) rfl ?_
        refine xo_nil ?_
        refine xq_seq ?_
        refine xc_dec rfl (fun h1 => (by exfalso; omega)) (fun h1 => ?_)
        refine xc_skip ?_
        refine xq_seq ?_
        refine xc_seq ?_
        refine xc_region ?_
        refine xo_rd (rd_fieldAddr rfl) rfl ?_
        refine xo_rd (rd_loadA (vs := roE x.most x.rp x.ms.length x.rc) rfl rfl (Rr.ro_cl (by exact List.mem_cons_of_mem _ (List.mem_cons_of_mem _ List.mem_cons_self)))) rfl ?_
        refine xo_rd (rd_loadB rfl Kn.o1 (by rfl)) rfl ?_
        refine xo_ef rfl (ef_call rfl (XF.mono (hrj _ (by intro z hz; simp [hz])) ?_))
        rintro v L' ⟨p', c', lo, rfl, rfl, hro⟩
        refine xo_seg [_, _, _] lo _ ?_
        refine xo_rd (rd_move rfl) rfl ?_
        refine xo_rd (rd_extract rfl rfl) rfl ?_
        refine xo_rd (rd_extract rfl rfl) rfl ?_
        refine xo_ef rfl (ef_alloc fun r6 => ?_)
        refine xo_ef rfl (ef_storeB [] _ rfl rfl (by first | rfl | assumption) rfl rfl rfl ?_)
        refine xo_rd (rd_assign rfl) rfl ?_
        refine xo_nil ?_
        refine xq_seq ?_
        refine xc_seq ?_
        refine xc_seq ?_
        refine xc_region ?_
        refine xo_rd (rd_move rfl) rfl ?_
        refine xo_rd (rd_neq rfl rfl) rfl ?_
        refine xo_nil ?_
        refine xq_seq ?_
        refine xc_condf rfl ?_
        refine xc_skip ?_
        refine xq_seq ?_
        refine xc_seq ?_
        refine xc_region ?_
        refine xo_rd (rd_loadB rfl Kn.o0 (by rfl)) rfl ?_
        refine xo_rd (rd_fieldAddr rfl) rfl ?_
        refine xo_ef rfl (ef_storeW [_, _, _] _ 0 (vs := roE x.most p' (x.ms ++ [m]).length c') (cs := x.enc) (ws := Rr.enc { x with ms := x.ms ++ [m], rp := p', rc := c' }) rfl rfl rfl rfl rfl (by rw [Rr.len]; show 0 + 2 ≤ 14; decide) (by kernel_rfl) ?_)
        refine xo_nil ?_
        refine xq_seq ?_
        refine xc_seq ?_
        refine xc_region ?_
        refine xo_rd (rd_fieldAddr rfl) rfl ?_
        refine xo_rd (rd_loadA (vs := x.f.enc) rfl rfl (Rr.fl_cl (x := { x with ms := x.ms ++ [m], rp := p', rc := c' }) (by exact List.mem_cons_of_mem _ (List.mem_cons_of_mem _ (List.mem_cons_of_mem _ List.mem_cons_self))))) rfl ?_
        refine xo_rd (rd_fieldAddr rfl) rfl ?_
        refine xo_rd (rd_load1 rfl (Cl.o2 rfl)) rfl ?_
        refine xo_rd (rd_convn rfl (by omega) (by omega)) rfl ?_
        refine xo_rd (rd_fieldAddr rfl) rfl ?_
        refine xo_rd (rd_load1 rfl (Cl.o2 rfl)) rfl ?_
        refine xo_ef rfl (ef_call rfl (XF.mono (hfj _ lo (fun z hz => List.mem_append_right [_, _, _, _] (hsl lo z hz))) ?_))
        rintro v L' ⟨y, N, rfl, hya, hyat, rfl⟩
        refine xo_seg [_, _, _, _] N _ ?_
        refine xo_rd (rd_move rfl) rfl ?_
        refine xo_rd (rd_extract rfl rfl) rfl ?_
        refine xo_rd (rd_extract rfl rfl) rfl ?_
        refine xo_rd (rd_fieldAddr rfl) rfl ?_
        refine xo_ef rfl (ef_storeW [_, _, _] _ 2 (vs := y.enc) (cs := Rr.enc { x with ms := x.ms ++ [m], rp := p', rc := c' }) (ws := rrE (roE x.most p' (x.ms ++ [m]).length c') y.enc x.xp x.ws.length x.xc) rfl rfl rfl rfl rfl (by rw [Rr.len, Rf.len]; decide) (by kernel_rfl) ?_)
        refine xo_nil ?_
        refine xq_seq ?_
        refine xc_seq ?_
        refine xc_region ?_
        refine xo_rd (rd_assign rfl) rfl ?_
        refine xo_nil ?_
        refine xq_seq ?_
      have hxs := fun L' h => (hxL L' h).xs
      focus
        refine xc_seq ?_
        refine xc_region ?_
        refine xo_rd (rd_move rfl) rfl ?_
        refine xo_rd (rd_fieldAddr rfl) rfl ?_
        refine xo_rd (rd_load1 rfl (Cl.o3 rfl)) rfl ?_
        refine xo_ef rfl (ef_appendQS [_, _, _, _] (N ++ (lo ++ L)) [] (news := x.ws.flatMap Wx.enc) rfl rfl SlQ.nil rfl (hxs _ (by intro z hz; simp [hz])) (flat_length Wx.enc Wx.len _) (Wx.one _) (by decide) (by omega) (by omega) fun xp1 xc1 xl1 hO1 hk1 => ?_)
        refine xo_rd (rd_assign rfl) rfl ?_
        refine xo_nil ?_
        refine xq_seq ?_
      rw [List.nil_append] at hO1
      rw [Nat.zero_add x.ws.length] at hO1 hk1 ⊢
      focus
        refine xc_seq ?_
        refine xc_region ?_
        refine xo_rd (rd_move rfl) rfl ?_
        refine xo_rd (rd_fieldAddr rfl) rfl ?_
        refine xo_rd (rd_load1 rfl (Cl.o2 rfl)) rfl ?_
        refine xo_rd (rd_cast (v' := .agg (nwX m.id).enc.toArray) (rd_build (T := 105) rfl rfl rfl) (by kernel_rfl)) rfl ?_
        refine xo_ef rfl (ef_sliceA (vs := (nwX m.id).enc) rfl rfl (by rw [Wx.len]; decide) (by rw [Wx.len]; decide) fun r46 => ?_)
        refine xo_ef rfl (ef_appendQS [_, _, _, _, _] (N ++ (lo ++ L)) xl1 (news := (nwX m.id).enc) rfl rfl hO1 rfl (Rs.fresh (List.Mem.head _)) rfl rfl (by decide) (by omega) (by omega) fun xp2 xc2 xl2 hO2 hk2 => ?_)
        refine xo_rd (rd_fieldAddr rfl) rfl ?_
        refine xo_ef rfl (ef_store1 [_, _, _, _] _ rfl rfl (by first | rfl | assumption) rfl rfl rfl ?_)
        refine xo_nil ?_
        refine xq_seq ?_
        refine xc_seq ?_
        refine xc_region ?_
        refine xo_rd (rd_loadB rfl Kn.o4 (by rfl)) rfl ?_
        refine xo_ef rfl (ef_storeB [_, _] _ rfl rfl (by first | rfl | assumption) rfl rfl rfl ?_)
        refine xo_rd (rd_assign rfl) rfl ?_
        refine xo_nil ?_
        refine xq_seq ?_
        refine xc_ret ?_
      have hall : ∀ u, u ∈ x.ws ++ [nwX m.id] → (u ∈ x.ws ∨ u = nwX m.id) := fun u hu => by simpa using hu
      exact xq_retB2 (.inl rfl) Tryz.results28 rfl rfl (.inr (List.Mem.tail _ (List.Mem.tail _ (List.Mem.head _)))) rfl (List.sublist_append_right [_, _, _, _, _] _) ⟨⟨x.most, x.ms ++ [m], p', c', y, x.ws ++ [nwX m.id], xp2, xc2⟩, xl2 ++ (N ++ lo), by simp only [Rr.enc, List.length_append, List.length_singleton]; rfl, by simp only [Rr.ra, hya, List.map_append]; rfl, ⟨hro.mono (by intro z hz; simp [hz]), hyat.mono (by intro z hz; simp [hz]), by rw [List.flatMap_append, List.flatMap_singleton]; exact hO2.rs (by intro z hz; simp [hz]), fun u hu => (hall u hu).elim (fun h => (hx.w u h).mono (by intro z hz; simp [hz])) (fun h => by rw [h]; exact Rs.nil), by dsimp only; rw [List.length_append, List.length_singleton]; omega, by dsimp only; rw [List.length_append, List.length_singleton]; omega, fun u hu => (hall u hu).elim (fun h => hx.cl u h) (fun h => by rw [h]; exact Nat.zero_le _)⟩, by simp only [List.append_assoc]⟩
    · have hJ : jnA x.ra m = x.ra := by unfold jnA; rw [if_neg (by rw [hE]; exact he0)]
      have hjl : joinL x.most x.ms m = x.ms := by unfold joinL; rw [if_neg (by rw [he]; exact he0)]
      rw [hE, hJ]
      focus
        refine xc_seq ?_
        refine xc_region ?_
        refine xo_ef rfl (ef_box rfl fun r2 => ?_)
        refine xo_ef rfl (ef_box rfl fun r3 => ?_)
        refine xo_ef rfl (ef_alloc fun r4 => ?_)
        refine xo_rd (rd_assign rfl) rfl ?_
        refine xo_nil ?_
        refine xq_seq ?_
        refine xc_seq ?_
        refine xc_seq ?_
        refine xc_region ?_
        refine xo_rd (rd_fieldAddr rfl) rfl ?_
        refine xo_rd (rd_load1 rfl (Cl.o1 rfl)) rfl ?_
        refine xo_rd (rd_gtr rfl rfl) rfl ?_
        refine xo_nil ?_
        refine xq_seq ?_
        refine xc_dec rfl (fun h1 => (by exfalso; omega)) (fun h1 => ?_)
        refine xc_skip ?_
        refine xq_seq ?_
        refine xc_seq ?_
        refine xc_region ?_
        refine xo_rd (rd_fieldAddr rfl) rfl ?_
        refine xo_rd (rd_loadA (vs := roE x.most x.rp x.ms.length x.rc) rfl rfl (Rr.ro_cl (by exact List.mem_cons_of_mem _ (List.mem_cons_of_mem _ List.mem_cons_self)))) rfl ?_
        refine xo_rd (rd_loadB rfl Kn.o1 (by rfl)) rfl ?_
        refine xo_ef rfl (ef_call rfl (XF.mono (hrj _ (by intro z hz; simp [hz])) ?_))
        rintro v L' ⟨p', c', lo, rfl, rfl, hro⟩
        refine xo_seg [_, _, _] lo _ ?_
        refine xo_rd (rd_move rfl) rfl ?_
        refine xo_rd (rd_extract rfl rfl) rfl ?_
        refine xo_rd (rd_extract rfl rfl) rfl ?_
        refine xo_ef rfl (ef_alloc fun r6 => ?_)
        refine xo_ef rfl (ef_storeB [] _ rfl rfl (by first | rfl | assumption) rfl rfl rfl ?_)
        refine xo_rd (rd_assign rfl) rfl ?_
        refine xo_nil ?_
        refine xq_seq ?_
        refine xc_seq ?_
        refine xc_seq ?_
        refine xc_region ?_
        refine xo_rd (rd_move rfl) rfl ?_
        refine xo_rd (rd_neq rfl rfl) rfl ?_
        refine xo_nil ?_
        refine xq_seq ?_
        refine xc_ndec rfl (fun h2 => ?_) (fun h2 => (by exfalso; omega))
        refine xc_seq ?_
        refine xc_region ?_
        refine xo_rd (rd_loadB rfl Kn.o3 (by rfl)) rfl ?_
        refine xo_rd (rd_move rfl) rfl ?_
        refine xo_ef rfl (ef_storeB [_] _ rfl rfl (by first | rfl | assumption) rfl rfl rfl ?_)
        refine xo_rd (rd_assign rfl) rfl ?_
        refine xo_nil ?_
        refine xq_seq ?_
        refine xc_ret ?_
        refine xq_then_ret ?_
      exact xq_retB2 (.inl rfl) Tryz.results28 rfl rfl Kn.o1 rfl (List.sublist_append_right [_, _, _, _] _) ⟨x, lo, rfl, rfl, hx.mono fun z hz => List.mem_append_right _ hz, rfl⟩
end Go.Proofs.YtmdeajdaeihniaaGreat.X
/-
  Chapter 25: the reference's room: who leaves: a walk of my own.
-/
namespace Go.Proofs.YtmdeajdaeihniaaGreat.X
open Go Go.RowKit
set_option linter.unusedVariables false
set_option linter.unusedSimpArgs false
structure LwS where
  i : Nat
  ws : List Wx
  p : Option Addr
  c : Nat
  l : List Blk
  g : List Blk
theorem getId_id {l : List Mb} {id : Int} (h : (getId l id).isSome) : ∃ m, m ∈ l ∧ m.id = id := by
  unfold getId at h
  rw [List.find?_isSome] at h
  obtain ⟨m, hm, he⟩ := h
  exact ⟨m, hm, by simpa using he⟩
def outW (ws : List Wx) (id : Int) : List Wa := ((ws.map Wx.a).filter fun w => !decide (w.id = id)).map (cutW id)
theorem outW_snoc (ws : List Wx) (e : Wx) (id : Int) : outW (ws ++ [e]) id = outW ws id ++ if e.a.id = id then [] else [cutW id e.a] := by
  unfold outW
  rw [List.map_append, List.filter_append, List.map_append]
  congr 1
  by_cases h : e.a.id = id
  · simp [h]
  · simp [h]
theorem outW_le (ws : List Wx) (id : Int) : (outW ws id).length ≤ ws.length := by
  unfold outW
  rw [List.length_map]
  exact Nat.le_trans (List.length_filter_le _ _) (by rw [List.length_map]; exact Nat.le_refl _)
set_option maxHeartbeats 1600000 in
theorem xf_r2Leave {W : World} {L : List Blk} (L0 : List Blk) (hs : ∀ z, z ∈ L0 → z ∈ L) (x : Rr) (hx : x.At W L0) (id now : Int) (hmi : (x.ms.map Mb.id).Nodup) (hrg : ∀ m, m ∈ x.ms → 0 ≤ m.id ∧ m.id ≤ 2147483647) (hnd : (x.f.a.ms.map (·.1)).Nodup) (hwn : x.f.a.wt.Nodup) (hg : x.f.a.gs.length < 1000000) : XF Tryz.prog W 30 #[.agg x.enc.toArray, .int .i64 id, .int .u64 now] L (fun v L' => ∃ y N, v = .tuple #[.agg (Rr.enc y).toArray, .int .i64 (lvE x.ra id)] ∧ y.ra = lvA x.ra id now ∧ y.At W (N ++ L0) ∧ L' = N ++ L) := by
  have hxL : ∀ L', (∀ z, z ∈ L → z ∈ L') → x.At W L' := fun L' h => hx.mono fun z hz => h z (hs z hz)
  have hxl := hx.xl
  refine xf_enter (args := [_, _, _]) Tryz.func30 rfl Tryz.ntmps30 rfl ?_
  have hrj := fun L' (h : ∀ z, z ∈ L → z ∈ L') => xf_rleave (W := W) (L := L') L0 x.most x.ms x.rp x.rc hx.r (fun z hz => h z (hs z hz)) hmi hx.ml id
  by_cases his : (getId x.ms id).isSome = true
  · have he : leaveR x.ms id = 0 := by unfold leaveR; rw [if_pos his]
    have hE : lvE x.ra id = 0 := he
    have hJ : lvA x.ra id now = ⟨x.most, leaveL x.ms id, leaveF x.f.a id now, outW x.ws id⟩ := by unfold lvA; rw [if_pos hE]; rfl
    rw [hE, hJ]
    rw [he] at hrj
    have hid : 0 ≤ id ∧ id ≤ 2147483647 := by
      obtain ⟨m, hm, hmid⟩ := getId_id his
      have := hrg m hm
      omega
    have hfj := fun L' lo (h : ∀ z, z ∈ lo ++ L0 → z ∈ L') => xf_rLeave (W := W) (L := L') (lo ++ L0) h x.f (hx.f.mono fun z hz => List.mem_append_right _ hz) id now hnd hwn hg
    have hsl : ∀ lo : List Blk, ∀ z, z ∈ lo ++ L0 → z ∈ lo ++ L := fun lo z hz => (List.mem_append.1 hz).elim (fun h => List.mem_append_left _ h) (fun h => List.mem_append_right _ (hs z h))
    focus
      refine xc_seq ?_
      refine xc_region ?_
      refine xo_ef rfl (ef_box rfl fun r3 => ?_)
      refine xo_ef rfl (ef_alloc fun r6 => ?_)
      refine xo_rd (rd_assign rfl) rfl ?_
      refine xo_nil ?_
      refine xq_seq ?_
      refine xc_seq ?_
      refine xc_region ?_
      refine xo_rd (rd_fieldAddr rfl) rfl ?_
      refine xo_rd (rd_loadA (vs := roE x.most x.rp x.ms.length x.rc) rfl rfl (Rr.ro_cl (by exact List.mem_cons_of_mem _ List.mem_cons_self))) rfl ?_
      refine xo_rd (rd_move rfl) rfl ?_
      refine xo_ef rfl (ef_call rfl (XF.mono (hrj _ (by intro z hz; simp [hz])) ?_))
      rintro v L' ⟨p', c', lo, rfl, rfl, hro⟩
      refine xo_seg [_, _] lo _ ?_
      refine xo_rd (rd_move rfl) rfl ?_
      refine xo_rd (rd_extract rfl rfl) rfl ?_
      refine xo_rd (rd_extract rfl rfl) rfl ?_
      refine xo_ef rfl (ef_alloc fun r8 => ?_)
      refine xo_ef rfl (ef_storeB [] _ rfl rfl (by first | rfl | assumption) rfl rfl rfl ?_)
      refine xo_rd (rd_assign rfl) rfl ?_
      refine xo_nil ?_
      refine xq_seq ?_
      refine xc_seq ?_
      refine xc_seq ?_
      refine xc_region ?_
      refine xo_rd (rd_move rfl) rfl ?_
      refine xo_rd (rd_neq rfl rfl) rfl ?_
      refine xo_nil ?_
      refine xq_seq ?_
      refine xc_condf rfl ?_
      refine xc_skip ?_
      refine xq_seq ?_
      refine xc_seq ?_
      refine xc_region ?_
      refine xo_rd (rd_loadB rfl Kn.o0 (by rfl)) rfl ?_
      refine xo_rd (rd_fieldAddr rfl) rfl ?_
      refine xo_ef rfl (ef_storeW [_, _] _ 0 (vs := roE x.most p' (leaveL x.ms id).length c') (cs := x.enc) (ws := Rr.enc { x with ms := leaveL x.ms id, rp := p', rc := c' }) rfl rfl rfl rfl rfl (by rw [Rr.len]; show 0 + 2 ≤ 14; decide) (by kernel_rfl) ?_)
      refine xo_nil ?_
      refine xq_seq ?_
      refine xc_seq ?_
      refine xc_region ?_
      refine xo_rd (rd_fieldAddr rfl) rfl ?_
      refine xo_rd (rd_loadA (vs := x.f.enc) rfl rfl (Rr.fl_cl (x := { x with ms := leaveL x.ms id, rp := p', rc := c' }) (by exact List.mem_cons_of_mem _ (List.mem_cons_of_mem _ List.mem_cons_self)))) rfl ?_
      refine xo_rd (rd_move rfl) rfl ?_
      refine xo_rd (rd_convn rfl (by omega) (by omega)) rfl ?_
      refine xo_rd (rd_move rfl) rfl ?_
      refine xo_ef rfl (ef_call rfl (XF.mono (hfj _ lo (fun z hz => List.mem_append_right [_, _, _] (hsl lo z hz))) ?_))
      rintro v L' ⟨y, N, rfl, hya, hyat, rfl⟩
      refine xo_seg [_, _, _] N _ ?_
      refine xo_rd (rd_move rfl) rfl ?_
      refine xo_rd (rd_extract rfl rfl) rfl ?_
      refine xo_rd (rd_extract rfl rfl) rfl ?_
      refine xo_rd (rd_fieldAddr rfl) rfl ?_
      refine xo_ef rfl (ef_storeW [_, _] _ 2 (vs := y.enc) (cs := Rr.enc { x with ms := leaveL x.ms id, rp := p', rc := c' }) (ws := rrE (roE x.most p' (leaveL x.ms id).length c') y.enc x.xp x.ws.length x.xc) rfl rfl rfl rfl rfl (by rw [Rr.len, Rf.len]; decide) (by kernel_rfl) ?_)
      refine xo_nil ?_
      refine xq_seq ?_
      refine xc_seq ?_
      refine xc_region ?_
      refine xo_rd (rd_assign rfl) rfl ?_
      refine xo_nil ?_
      refine xq_seq ?_
      refine xc_seq ?_
      refine xc_seq ?_
      refine xc_region ?_
      refine xo_rd (rd_assign rfl) rfl ?_
      refine xo_nil ?_
      refine xq_seq ?_
      refine xc_block ?_
    refine xc_loopI (ι := LwS) (fun s => s.i ≤ x.ws.length ∧ s.ws.map Wx.a = outW (x.ws.take s.i) id ∧ SlQ 3 105 (.slice s.p s.ws.length s.c) s.ws.length (s.ws.flatMap Wx.enc) s.l ∧ (∀ u, u ∈ s.ws → Rs W s.g u.p (ints .i64 u.a.cs) ∧ u.a.cs.length ≤ 1000)) (fun s => x.ws.length - s.i) (fun s => (r8, Obj.cells (roE x.most p' (leaveL x.ms id).length c').toArray 34 (0, 0)) :: (r6, Obj.cells (rrE (roE 0 none 0 0) (rfE 0 0 none 0 0 false 0 0 0 0 false none 0 0 none 0 0) none 0 0).toArray 45 (0, 0)) :: (r3, Obj.cells (rrE (roE x.most p' (leaveL x.ms id).length c') y.enc x.xp x.ws.length x.xc).toArray 45 (0, 0)) :: (s.l ++ (s.g ++ (N ++ (lo ++ L))))) (fun s => [(1, .int .i64 id), (3, .pointer (some ⟨r3, 0, none⟩)), (6, .pointer (some ⟨r6, 0, none⟩)), (10, .slice s.p s.ws.length s.c), (11, .int .i64 s.i)]) ⟨0, [], none, 0, [], []⟩ ⟨Nat.zero_le _, rfl, SlQ.nil, fun u hu => by cases hu⟩ rfl (by repeat (first | exact keep_nil | refine keep_cons rfl ?_)) ?_
    rintro ⟨i, ws', xp1, xc1, xl1, gb⟩ ⟨hi, hwm, hO, hcs⟩
    dsimp only at hi hwm hO hcs ⊢
    have hwl : ws'.length ≤ i := by
      have h1 := congrArg List.length hwm
      rw [List.length_map] at h1
      have h2 := outW_le (x.ws.take i) id
      rw [List.length_take] at h2
      omega
    by_cases hin : i < x.ws.length
    · obtain ⟨b, o, hp, hc⟩ := hx.xs.rows Wx.len (by decide) (by omega)
      have hci := hc i hin
      obtain ⟨e, hee⟩ : ∃ e, x.ws[i] = e := ⟨_, rfl⟩
      rw [hee] at hci
      have hem : e ∈ x.ws := hee ▸ List.getElem_mem hin
      have hci2 : ∀ L', (∀ z, z ∈ L → z ∈ L') → ∀ j u, e.enc[j]? = some u → Cl W L' b (o + (i : Int).toNat * 3 + j) u := fun L' h j u hj => (hci j u hj).mono fun z hz => h z (hs z hz)
      have htk : x.ws.take (i + 1) = x.ws.take i ++ [e] := by rw [List.take_add_one, List.getElem?_eq_getElem hin, hee]; rfl
      have hwt := fun L' (h : ∀ z, z ∈ L → z ∈ L') => xf_rwithout (W := W) (L := L') e.p e.a.cs.length e.c e.a.cs rfl ((hx.w e hem).mono fun z hz => h z (hs z hz)) (by have := hx.cl e hem; omega) id
      focus
        refine xc_seq ?_
        refine xc_seq ?_
        refine xc_region ?_
        refine xo_rd (rd_move rfl) rfl ?_
        refine xo_rd (rd_fieldAddr rfl) rfl ?_
        refine xo_rd (rd_cast (v' := .slice (some ⟨b, o, none⟩) x.ws.length x.xc) (rd_load1 rfl (Cl.own (i := 13) (List.mem_cons_of_mem _ (List.mem_cons_of_mem _ List.mem_cons_self)) rfl)) (by rw [← hp]; rfl)) rfl ?_
        refine xo_rd (rd_len rfl) rfl ?_
        refine xo_rd (rd_lss rfl rfl) rfl ?_
        refine xo_nil ?_
        refine xq_seq ?_
        refine xc_dec rfl (fun hz1 => ?_) (fun hz1 => (by exfalso; omega))
        refine xc_skip ?_
        refine xq_seq ?_
        refine xc_seq ?_
        refine xc_block ?_
        refine xc_seq ?_
        refine xc_region ?_
        refine xo_rd (rd_fieldAddr rfl) rfl ?_
        refine xo_rd (rd_cast (v' := .slice (some ⟨b, o, none⟩) x.ws.length x.xc) (rd_load1 rfl (Cl.own (i := 13) (List.mem_cons_of_mem _ (List.mem_cons_of_mem _ List.mem_cons_self)) rfl)) (by rw [← hp]; rfl)) rfl ?_
        refine xo_rd (rd_move rfl) rfl ?_
        refine xo_rd (rd_indexAddr rfl rfl (by omega) (by omega)) rfl ?_
        refine xo_rd (rd_loadA (vs := e.enc) rfl rfl (hci2 _ (by intro z hz; simp [hz]))) rfl ?_
        refine xo_ef rfl (ef_alloc fun r12 => ?_)
        refine xo_ef rfl (ef_storeB [] _ rfl rfl (by first | rfl | assumption) rfl rfl rfl ?_)
        refine xo_nil ?_
        refine xq_seq ?_
        refine xc_seq ?_
        refine xc_region ?_
        refine xo_rd (rd_fieldAddr rfl) rfl ?_
        refine xo_rd (rd_load1 rfl (Cl.o0 rfl)) rfl ?_
        refine xo_rd (rd_move rfl) rfl ?_
        refine xo_rd (rd_neq rfl rfl) rfl ?_
        refine xo_nil ?_
        refine xq_seq ?_
        refine xc_ndec rfl (fun hz2 => ?_) (fun hz2 => ?_)
        refine xc_drawM [0, 0, 2, 0, 8, 0, 32, 0, 192, 276, 512, 1281, 4095] [0, 0, 2, 0, 8, 0, 32, 0, 192, 276, 512, 1281, 4095] [(r12, Obj.cells e.enc.toArray 105 (0, 0))] (by kernel_rfl) (by kernel_rfl) (by kernel_rfl) ?_
        refine xm_take 0 (m' := 1) rfl (by kernel_rfl) Sb.a (rd_move rfl) rfl (by kernel_rfl) ?_
        refine xm_take 1 (m' := 3) rfl (by kernel_rfl) Sb.a (rd_fieldAddr rfl) rfl (by kernel_rfl) ?_
        refine xm_take 2 (m' := 7) rfl (by kernel_rfl) Sb.a (rd_load1 rfl (Cl.o0 rfl)) rfl (by kernel_rfl) ?_
        refine xm_take 3 (m' := 15) rfl (by kernel_rfl) Sb.a (rd_fieldAddr rfl) rfl (by kernel_rfl) ?_
        refine xm_take 4 (m' := 31) rfl (by kernel_rfl) Sb.a (rd_load1 rfl (Cl.o0 rfl)) rfl (by kernel_rfl) ?_
        refine xm_take 5 (m' := 63) rfl (by kernel_rfl) Sb.a (rd_fieldAddr rfl) rfl (by kernel_rfl) ?_
        refine xm_take 6 (m' := 127) rfl (by kernel_rfl) Sb.a (rd_load1 rfl (Cl.o0 rfl)) rfl (by kernel_rfl) ?_
        refine xm_take 7 (m' := 255) rfl (by kernel_rfl) Sb.a (rd_move rfl) rfl (by kernel_rfl) ?_
        refine xm_one 8 (m' := 511) rfl (by kernel_rfl) rfl (by kernel_rfl) (ef_call rfl (XF.mono (hwt _ (by intro z hz; simp [hz])) ?_))
        rintro v L' ⟨q, kk, lb, rfl, hO2, rfl⟩
        refine xmx_seg [_, _, _, _] lb _ ?_
        refine ⟨Sb.a, ?_⟩
        refine xm_take 9 (m' := 1023) rfl (by kernel_rfl) Sb.a (rd_cast (v' := .agg (Wx.enc ⟨cutW id e.a, q, kk⟩).toArray) (rd_build (T := 105) rfl rfl rfl) (by kernel_rfl)) rfl (by kernel_rfl) ?_
        refine xm_one 10 (m' := 2047) rfl (by kernel_rfl) rfl (by kernel_rfl) (ef_sliceA (vs := Wx.enc ⟨cutW id e.a, q, kk⟩) rfl rfl (by rw [Wx.len]; decide) (by rw [Wx.len]; decide) fun r62 => ?_)
        refine ⟨Sb.a, ?_⟩
        refine xm_one 11 (m' := 4095) rfl (by kernel_rfl) rfl (by kernel_rfl) (ef_appendQS (_ :: _ :: _ :: _ :: _ :: lb) (gb ++ (N ++ (lo ++ L))) xl1 (news := Wx.enc ⟨cutW id e.a, q, kk⟩) rfl rfl hO rfl (Rs.fresh (List.Mem.head _)) rfl rfl (by decide) (by omega) (by omega) fun xp2 xc2 xl2 hO3 hk3 => ?_)
        refine ⟨Sb.a, ?_⟩
        refine xm_take 12 (m' := 8191) rfl (by kernel_rfl) Sb.a (rd_assign rfl) rfl (by kernel_rfl) ?_
        refine xm_done (by kernel_rfl) ?_
        refine xq_block ?_
        refine xq_seq ?_
        refine xc_region ?_
        refine xo_rd (rd_move rfl) rfl ?_
        refine xo_rd (rd_addn rfl rfl (by omega) (by omega)) rfl ?_
        refine xo_rd (rd_assign rfl) rfl ?_
        refine xo_nil ?_
        rotate_left
        refine xc_skip ?_
        refine xq_block ?_
        refine xq_seq ?_
        refine xc_region ?_
        refine xo_rd (rd_move rfl) rfl ?_
        refine xo_rd (rd_addn rfl rfl (by omega) (by omega)) rfl ?_
        refine xo_rd (rd_assign rfl) rfl ?_
        refine xo_nil ?_
        rotate_left
      · refine xq_sub (List.sublist_append_right [_, _] _) (xq_perm (((seg_perm lb xl2 (gb ++ (N ++ (lo ++ L)))).trans (List.Perm.of_eq (by rw [List.append_assoc lb gb]))).cons _ |>.cons _ |>.cons _) (xq_roundI (⟨i + 1, ws' ++ [⟨cutW id e.a, q, kk⟩], xp2, xc2, xl2, lb ++ gb⟩ : LwS) ⟨by dsimp only; omega, by dsimp only; rw [htk, outW_snoc, if_neg hz2, List.map_append, hwm]; rfl, by dsimp only; rw [List.length_append, List.flatMap_append, List.flatMap_singleton]; exact hO3, fun u hu => ?_⟩ (by dsimp only; omega) rfl (by dsimp only; rw [List.length_append]; exact (by repeat (first | exact keep_nil | refine keep_cons rfl ?_)))))
        rcases List.mem_append.1 hu with h | h
        · exact ⟨(hcs u h).1.mono fun z hz => List.mem_append_right _ hz, (hcs u h).2⟩
        · obtain rfl := List.mem_singleton.1 h
          exact ⟨hO2.rs fun z hz => List.mem_append_left _ hz, Nat.le_trans (List.length_filter_le _ _) (hx.cl e hem)⟩
      · exact xq_sub (List.sublist_cons_self _ _) (xq_roundI (⟨i + 1, ws', xp1, xc1, xl1, gb⟩ : LwS) ⟨by dsimp only; omega, by dsimp only; rw [htk, outW_snoc, if_pos hz2, List.append_nil, hwm], hO, hcs⟩ (by dsimp only; omega) rfl (by repeat (first | exact keep_nil | refine keep_cons rfl ?_)))
    · rw [List.take_of_length_le (by omega)] at hwm
      focus
        refine xc_seq ?_
        refine xc_seq ?_
        refine xc_region ?_
        refine xo_rd (rd_move rfl) rfl ?_
        refine xo_rd (rd_fieldAddr rfl) rfl ?_
        refine xo_rd (rd_load1 rfl (Cl.o2 rfl)) rfl ?_
        refine xo_rd (rd_len rfl) rfl ?_
        refine xo_rd (rd_lss rfl rfl) rfl ?_
        refine xo_nil ?_
        refine xq_seq ?_
        refine xc_dec rfl (fun h1 => (by exfalso; omega)) (fun h1 => ?_)
        refine xc_exit ?_
        refine xq_then_exit ?_
        refine xq_then_exit ?_
        refine xq_block_hit ?_
        refine xq_seq ?_
        refine xc_seq ?_
        refine xc_region ?_
        refine xo_rd (rd_move rfl) rfl ?_
        refine xo_rd (rd_fieldAddr rfl) rfl ?_
        refine xo_ef rfl (ef_store1 [_, _] _ rfl rfl (by first | rfl | assumption) rfl rfl rfl ?_)
        refine xo_nil ?_
        refine xq_seq ?_
        refine xc_seq ?_
        refine xc_region ?_
        refine xo_rd (rd_loadB rfl Kn.o2 (by rfl)) rfl ?_
        refine xo_ef rfl (ef_storeB [_] _ rfl rfl (by first | rfl | assumption) rfl rfl rfl ?_)
        refine xo_rd (rd_assign rfl) rfl ?_
        refine xo_nil ?_
        refine xq_seq ?_
        refine xc_ret ?_
      exact xq_retB2 (.inl rfl) Tryz.results30 rfl rfl Kn.o1 rfl (List.sublist_append_right [_, _, _] _) ⟨⟨x.most, leaveL x.ms id, p', c', y, ws', xp1, xc1⟩, xl1 ++ (gb ++ (N ++ lo)), rfl, by simp only [Rr.ra, hya, hwm], ⟨hro.mono (by intro z hz; simp [hz]), hyat.mono (by intro z hz; simp [hz]), hO.rs (by intro z hz; simp [hz]), fun u hu => (hcs u hu).1.mono (by intro z hz; simp [hz]), Nat.le_trans (List.eraseP_sublist.length_le) hx.ml, by dsimp only; omega, fun u hu => (hcs u hu).2⟩, by simp only [List.append_assoc]; rfl⟩
  · have he : leaveR x.ms id = 130 := by unfold leaveR; rw [if_neg his]
    have hE : lvE x.ra id = 130 := he
    have hJ : lvA x.ra id now = x.ra := by unfold lvA; rw [if_neg (by rw [hE]; decide)]
    rw [hE, hJ]
    rw [he] at hrj
    focus
      refine xc_seq ?_
      refine xc_region ?_
      refine xo_ef rfl (ef_box rfl fun r3 => ?_)
      refine xo_ef rfl (ef_alloc fun r6 => ?_)
      refine xo_rd (rd_assign rfl) rfl ?_
      refine xo_nil ?_
      refine xq_seq ?_
      refine xc_seq ?_
      refine xc_region ?_
      refine xo_rd (rd_fieldAddr rfl) rfl ?_
      refine xo_rd (rd_loadA (vs := roE x.most x.rp x.ms.length x.rc) rfl rfl (Rr.ro_cl (by exact List.mem_cons_of_mem _ List.mem_cons_self))) rfl ?_
      refine xo_rd (rd_move rfl) rfl ?_
      refine xo_ef rfl (ef_call rfl (XF.mono (hrj _ (by intro z hz; simp [hz])) ?_))
      rintro v L' ⟨p', c', lo, rfl, rfl, hro⟩
      refine xo_seg [_, _] lo _ ?_
      refine xo_rd (rd_move rfl) rfl ?_
      refine xo_rd (rd_extract rfl rfl) rfl ?_
      refine xo_rd (rd_extract rfl rfl) rfl ?_
      refine xo_ef rfl (ef_alloc fun r8 => ?_)
      refine xo_ef rfl (ef_storeB [] _ rfl rfl (by first | rfl | assumption) rfl rfl rfl ?_)
      refine xo_rd (rd_assign rfl) rfl ?_
      refine xo_nil ?_
      refine xq_seq ?_
      refine xc_seq ?_
      refine xc_seq ?_
      refine xc_region ?_
      refine xo_rd (rd_move rfl) rfl ?_
      refine xo_rd (rd_neq rfl rfl) rfl ?_
      refine xo_nil ?_
      refine xq_seq ?_
      refine xc_condt rfl ?_
      refine xc_seq ?_
      refine xc_region ?_
      refine xo_rd (rd_loadB rfl Kn.o2 (by rfl)) rfl ?_
      refine xo_rd (rd_move rfl) rfl ?_
      refine xo_ef rfl (ef_storeB [_] _ rfl rfl (by first | rfl | assumption) rfl rfl rfl ?_)
      refine xo_rd (rd_assign rfl) rfl ?_
      refine xo_nil ?_
      refine xq_seq ?_
      refine xc_ret ?_
      refine xq_then_ret ?_
    exact xq_retB2 (.inl rfl) Tryz.results30 rfl rfl Kn.o1 rfl (List.sublist_append_right [_, _, _] _) ⟨x, lo, rfl, rfl, hx.mono fun z hz => List.mem_append_right _ hz, rfl⟩
end Go.Proofs.YtmdeajdaeihniaaGreat.X
/-
  Chapter 25: the reference's room: who subscribes: a walk of my own.
-/
namespace Go.Proofs.YtmdeajdaeihniaaGreat.X
open Go Go.RowKit
set_option linter.unusedVariables false
set_option linter.unusedSimpArgs false
theorem wxF_mem {ws : List Wx} {k : Int} : (wxF ws k).isSome = true ↔ k ∈ ws.map fun u => u.a.id := by
  unfold wxF
  rw [List.find?_isSome, List.mem_map]
  exact ⟨fun ⟨u, hu, he⟩ => ⟨u, hu, by simpa using he⟩, fun ⟨u, hu, he⟩ => ⟨u, hu, by simp [he]⟩⟩
theorem getId_memS {ms : List Mb} {k : Int} : (getId ms k).isSome = true ↔ k ∈ ms.map Mb.id := by
  unfold getId
  rw [List.find?_isSome, List.mem_map]
  exact ⟨fun ⟨u, hu, he⟩ => ⟨u, hu, by simpa using he⟩, fun ⟨u, hu, he⟩ => ⟨u, hu, by simp [he]⟩⟩
theorem wx_get {ws : List Wx} {ms : List Mb} (h : (ws.map fun u => u.a.id) = ms.map Mb.id) (k : Int) : (wxF ws k).isSome = (getId ms k).isSome := by
  rw [Bool.eq_iff_iff, wxF_mem, getId_memS, h]
theorem filter_lt {l : List Int} {c : Int} : (l.filter fun x => !decide (x = c)).length < l.length ↔ c ∈ l := by
  induction l with
  | nil => simp
  | cons a r ih =>
    by_cases h : a = c
    · have := List.length_filter_le (fun x => !decide (x = c)) r
      rw [List.filter_cons_of_neg (by simp [h])]
      simp [h]; omega
    · rw [List.filter_cons_of_pos (by simp [h])]
      simp only [List.length_cons, List.mem_cons]
      constructor
      · intro hlt; exact .inr (ih.1 (by omega))
      · rintro (h2 | h2)
        · exact absurd h2.symm h
        · have := ih.2 h2; omega
theorem xf_rOf' {W : World} {L : List Blk} (x : Rr) (hx : x.At W L) (id : Int) (b : Bool) (hb : (wxF x.ws id).isSome = b) : XF Tryz.prog W 44 #[.agg x.enc.toArray, .int .i64 id] L (fun v L' => v = .tuple #[.agg ((wxF x.ws id).getD wx0).enc.toArray, .bool b] ∧ L' = L) := hb ▸ xf_rOf x hx id
structure SuS where
  i : Nat
  ws : List Wx
  p : Option Addr
  c : Nat
  l : List Blk
  g : List Blk
set_option maxHeartbeats 3200000 in
theorem xf_r2Subscribe {W : World} {L : List Blk} (L0 : List Blk) (hs : ∀ z, z ∈ L0 → z ∈ L) (x : Rr) (hx : x.At W L0) (id : Int) (ct : Bool) (p : Option Addr) (n c : Nat) (cs : List Int) (hn : cs.length = n) (hr : Rs W L0 p (ints .i64 cs)) (hm : n ≤ 1000) (hnc : n ≤ c) (hids : (x.ws.map fun u => u.a.id) = x.ms.map Mb.id) : XF Tryz.prog W 34 #[.agg x.enc.toArray, .int .i64 id, .bool ct, .slice p n c] L (fun v L' => ∃ y N, v = .tuple #[.agg (Rr.enc y).toArray, .int .i64 (sbE x.ra id cs)] ∧ y.ra = sbA x.ra id ct cs ∧ y.At W (N ++ L0) ∧ L' = N ++ L) := by
  have hxL : ∀ L', (∀ z, z ∈ L → z ∈ L') → x.At W L' := fun L' h => hx.mono fun z hz => h z (hs z hz)
  have hxl := hx.xl
  have hrL := hr.mono hs
  refine xf_enter (args := [_, _, _, _]) Tryz.func34 rfl Tryz.ntmps34 rfl ?_
  obtain ⟨b0, hb0⟩ : ∃ b, (wxF x.ws id).isSome = b := ⟨_, rfl⟩
  have hof := fun L' h => xf_rOf' (W := W) (L := L') x (hxL L' h) id b0 hb0
  focus
    refine xc_seq ?_
    refine xc_region ?_
    refine xo_ef rfl (ef_box rfl fun r4 => ?_)
    refine xo_ef rfl (ef_alloc fun r8 => ?_)
    refine xo_rd (rd_assign rfl) rfl ?_
    refine xo_nil ?_
    refine xq_seq ?_
    refine xc_seq ?_
    refine xc_region ?_
    refine xo_rd (rd_loadB rfl Kn.o1 (by rfl)) rfl ?_
    refine xo_rd (rd_move rfl) rfl ?_
    refine xo_ef rfl (ef_call rfl (XF.mono (hof _ (by intro z hz; simp [hz])) ?_))
    rintro v L' ⟨rfl, rfl⟩
    refine xo_rd (rd_move rfl) rfl ?_
    refine xo_rd (rd_extract rfl rfl) rfl ?_
    refine xo_rd (rd_extract rfl rfl) rfl ?_
    refine xo_ef rfl (ef_alloc fun r10 => ?_)
    refine xo_ef rfl (ef_storeB [] _ rfl rfl (by first | rfl | assumption) rfl rfl rfl ?_)
    refine xo_rd (rd_assign rfl) rfl ?_
    refine xo_nil ?_
    refine xq_seq ?_
    refine xc_seq ?_
    refine xc_seq ?_
    refine xc_region ?_
    refine xo_rd (rd_assign rfl) rfl ?_
    refine xo_nil ?_
    refine xq_seq ?_
    refine xc_block ?_
  refine xc_loopK (ι := Nat × Bool) (fun s => s.1 ≤ n ∧ s.2 = ((id :: cs.take s.1).all fun k => (wxF x.ws k).isSome)) (fun s => n - s.1) (fun s => [(1, .int .i64 id), (2, .bool ct), (3, .slice p n c), (4, .pointer (some ⟨r4, 0, none⟩)), (8, .pointer (some ⟨r8, 0, none⟩)), (9, .int .i64 0), (11, .bool s.2), (12, .int .i64 s.1)]) (0, b0) ⟨Nat.zero_le _, by simp [hb0]⟩ (by repeat (first | exact keep_nil | refine keep_cons rfl ?_)) ?_
  rintro ⟨i, b⟩ ⟨hi, hbi⟩
  dsimp only at hi hbi ⊢
  by_cases hin : i < n
  · obtain ⟨bb, o, hpb, hc⟩ := hrL.int (i := i) (by omega)
    subst hpb
    have hc2 : ∀ L', (∀ z, z ∈ L → z ∈ L') → Cl W L' bb (o + (i : Int).toNat * 1) (.int .i64 cs[i]) := fun L' h => hc.mono h
    obtain ⟨k, hk⟩ : ∃ k, cs[i] = k := ⟨_, rfl⟩
    rw [hk] at hc2
    obtain ⟨b1, hb1⟩ : ∃ b, (wxF x.ws k).isSome = b := ⟨_, rfl⟩
    have hof1 := fun L' h => xf_rOf' (W := W) (L := L') x (hxL L' h) k b1 hb1
    have htk : ((id :: cs.take (i + 1)).all fun k => (wxF x.ws k).isSome) = (b && b1) := by
      have e1 : cs.take (i + 1) = cs.take i ++ [k] := by rw [List.take_add_one, List.getElem?_eq_getElem (by omega), hk]; rfl
      rw [e1, ← List.cons_append, List.all_append, ← hbi]
      simp [hb1]
    cases b with
    | true =>
      focus
        refine xc_seq ?_
        refine xc_seq ?_
        refine xc_region ?_
        refine xo_rd (rd_move rfl) rfl ?_
        refine xo_rd (rd_move rfl) rfl ?_
        refine xo_rd (rd_len rfl) rfl ?_
        refine xo_rd (rd_lss rfl rfl) rfl ?_
        refine xo_nil ?_
        refine xq_seq ?_
        refine xc_dec rfl (fun h1 => ?_) (fun h1 => (by exfalso; omega))
        refine xc_skip ?_
        refine xq_seq ?_
        refine xc_seq ?_
        refine xc_block ?_
        refine xc_seq ?_
        refine xc_drawML [0, 0, 0, 6, 8, 17, 32, 64, 64, 0, 767, 2047] [0, 0, 0, 6, 8, 17, 32, 64, 64, 0, 767, 2047] (by kernel_rfl) (by kernel_rfl) (by kernel_rfl) ?_
        refine xm_take 0 (m' := 1) rfl (by kernel_rfl) Sb.a (rd_loadB rfl Kn.o2 (by rfl)) rfl (by kernel_rfl) ?_
        refine xm_take 1 (m' := 3) rfl (by kernel_rfl) Sb.a (rd_move rfl) rfl (by kernel_rfl) ?_
        refine xm_take 2 (m' := 7) rfl (by kernel_rfl) Sb.a (rd_move rfl) rfl (by kernel_rfl) ?_
        refine xm_take 3 (m' := 15) rfl (by kernel_rfl) Sb.a (rd_indexAddr rfl rfl (by omega) (by omega)) rfl (by kernel_rfl) ?_
        refine xm_take 4 (m' := 31) rfl (by kernel_rfl) Sb.a (rd_load1 rfl (hc2 _ (by intro z hz; simp [hz]))) rfl (by kernel_rfl) ?_
        refine xm_two 5 9 (mi := 63) (mk := 543) rfl rfl (by kernel_rfl) rfl rfl (by kernel_rfl) (by kernel_rfl) (ef_call rfl (XF.mono (hof1 _ (by intro z hz; simp [hz])) ?_)) (ef_alloc fun r13 => ⟨Sb.a, ?_⟩)
        rotate_left
        rotate_right
        rintro v L' ⟨rfl, rfl⟩
        refine ⟨Sb.a, ?_⟩
        refine xm_take 6 (m' := 127) rfl (by kernel_rfl) Sb.a (rd_move rfl) rfl (by kernel_rfl) ?_
        refine xm_take 7 (m' := 255) rfl (by kernel_rfl) Sb.a (rd_extract rfl rfl) rfl (by kernel_rfl) ?_
        refine xm_take 8 (m' := 511) rfl (by kernel_rfl) Sb.a (rd_extract rfl rfl) rfl (by kernel_rfl) ?_
        refine xm_one 9 (m' := 1023) rfl (by kernel_rfl) rfl (by kernel_rfl) (ef_alloc fun r13 => ?_)
        refine ⟨Sb.a, ?_⟩
        refine xm_one 10 (m' := 2047) rfl (by kernel_rfl) rfl (by kernel_rfl) (ef_storeB [] _ rfl rfl (by first | rfl | assumption) rfl rfl rfl ?_)
        refine ⟨Sb.a, ?_⟩
        refine xm_take 11 (m' := 4095) rfl (by kernel_rfl) Sb.a (rd_assign rfl) rfl (by kernel_rfl) ?_
        refine xm_done (by kernel_rfl) ?_
        refine xq_seq ?_
        refine xc_region ?_
        refine xo_rd (rd_move rfl) rfl ?_
        refine xo_rd (rd_move rfl) rfl ?_
        refine xo_grd rfl rfl (rd_move rfl) rfl ?_
        refine xo_rd (rd_pickt rfl rfl) rfl ?_
        refine xo_rd (rd_assign rfl) rfl ?_
        refine xo_nil ?_
        refine xq_block ?_
        refine xq_seq ?_
        refine xc_region ?_
        refine xo_rd (rd_move rfl) rfl ?_
        refine xo_rd (rd_addn rfl rfl (by omega) (by omega)) rfl ?_
        refine xo_rd (rd_assign rfl) rfl ?_
        refine xo_nil ?_
        rotate_left
        refine xm_one 5 (m' := 575) rfl (by kernel_rfl) rfl (by kernel_rfl) (ef_call rfl (XF.mono (hof1 _ (by intro z hz; simp [hz])) ?_))
        rintro v L' ⟨rfl, rfl⟩
        refine ⟨Sb.a, ?_⟩
        refine xm_take 6 (m' := 639) rfl (by kernel_rfl) Sb.a (rd_move rfl) rfl (by kernel_rfl) ?_
        refine xm_take 7 (m' := 767) rfl (by kernel_rfl) Sb.a (rd_extract rfl rfl) rfl (by kernel_rfl) ?_
        refine xm_take 8 (m' := 1023) rfl (by kernel_rfl) Sb.a (rd_extract rfl rfl) rfl (by kernel_rfl) ?_
        refine xm_one 10 (m' := 2047) rfl (by kernel_rfl) rfl (by kernel_rfl) (ef_storeB [] _ rfl rfl (by first | rfl | assumption) rfl rfl rfl ?_)
        refine ⟨Sb.a, ?_⟩
        refine xm_take 11 (m' := 4095) rfl (by kernel_rfl) Sb.a (rd_assign rfl) rfl (by kernel_rfl) ?_
        refine xm_done (by kernel_rfl) ?_
        refine xq_seq ?_
        refine xc_region ?_
        refine xo_rd (rd_move rfl) rfl ?_
        refine xo_rd (rd_move rfl) rfl ?_
        refine xo_grd rfl rfl (rd_move rfl) rfl ?_
        refine xo_rd (rd_pickt rfl rfl) rfl ?_
        refine xo_rd (rd_assign rfl) rfl ?_
        refine xo_nil ?_
        refine xq_block ?_
        refine xq_seq ?_
        refine xc_region ?_
        refine xo_rd (rd_move rfl) rfl ?_
        refine xo_rd (rd_addn rfl rfl (by omega) (by omega)) rfl ?_
        refine xo_rd (rd_assign rfl) rfl ?_
        refine xo_nil ?_
        rotate_left
      all_goals exact xq_roundK rfl (i + 1, b1) ⟨by dsimp only; omega, by dsimp only; rw [htk]; rfl⟩ (by dsimp only; omega) (List.sublist_cons_self _ _) (by repeat (first | exact keep_nil | refine keep_cons rfl ?_))
    | false =>
      focus
        refine xc_seq ?_
        refine xc_seq ?_
        refine xc_region ?_
        refine xo_rd (rd_move rfl) rfl ?_
        refine xo_rd (rd_move rfl) rfl ?_
        refine xo_rd (rd_len rfl) rfl ?_
        refine xo_rd (rd_lss rfl rfl) rfl ?_
        refine xo_nil ?_
        refine xq_seq ?_
        refine xc_dec rfl (fun h1 => ?_) (fun h1 => (by exfalso; omega))
        refine xc_skip ?_
        refine xq_seq ?_
        refine xc_seq ?_
        refine xc_block ?_
        refine xc_seq ?_
        refine xc_drawML [0, 0, 0, 6, 8, 17, 32, 64, 64, 0, 767, 2047] [0, 0, 0, 6, 8, 17, 32, 64, 64, 0, 767, 2047] (by kernel_rfl) (by kernel_rfl) (by kernel_rfl) ?_
        refine xm_take 0 (m' := 1) rfl (by kernel_rfl) Sb.a (rd_loadB rfl Kn.o2 (by rfl)) rfl (by kernel_rfl) ?_
        refine xm_take 1 (m' := 3) rfl (by kernel_rfl) Sb.a (rd_move rfl) rfl (by kernel_rfl) ?_
        refine xm_take 2 (m' := 7) rfl (by kernel_rfl) Sb.a (rd_move rfl) rfl (by kernel_rfl) ?_
        refine xm_take 3 (m' := 15) rfl (by kernel_rfl) Sb.a (rd_indexAddr rfl rfl (by omega) (by omega)) rfl (by kernel_rfl) ?_
        refine xm_take 4 (m' := 31) rfl (by kernel_rfl) Sb.a (rd_load1 rfl (hc2 _ (by intro z hz; simp [hz]))) rfl (by kernel_rfl) ?_
        refine xm_two 5 9 (mi := 63) (mk := 543) rfl rfl (by kernel_rfl) rfl rfl (by kernel_rfl) (by kernel_rfl) (ef_call rfl (XF.mono (hof1 _ (by intro z hz; simp [hz])) ?_)) (ef_alloc fun r13 => ⟨Sb.a, ?_⟩)
        rotate_left
        rotate_right
        rintro v L' ⟨rfl, rfl⟩
        refine ⟨Sb.a, ?_⟩
        refine xm_take 6 (m' := 127) rfl (by kernel_rfl) Sb.a (rd_move rfl) rfl (by kernel_rfl) ?_
        refine xm_take 7 (m' := 255) rfl (by kernel_rfl) Sb.a (rd_extract rfl rfl) rfl (by kernel_rfl) ?_
        refine xm_take 8 (m' := 511) rfl (by kernel_rfl) Sb.a (rd_extract rfl rfl) rfl (by kernel_rfl) ?_
        refine xm_one 9 (m' := 1023) rfl (by kernel_rfl) rfl (by kernel_rfl) (ef_alloc fun r13 => ?_)
        refine ⟨Sb.a, ?_⟩
        refine xm_one 10 (m' := 2047) rfl (by kernel_rfl) rfl (by kernel_rfl) (ef_storeB [] _ rfl rfl (by first | rfl | assumption) rfl rfl rfl ?_)
        refine ⟨Sb.a, ?_⟩
        refine xm_take 11 (m' := 4095) rfl (by kernel_rfl) Sb.a (rd_assign rfl) rfl (by kernel_rfl) ?_
        refine xm_done (by kernel_rfl) ?_
        refine xq_seq ?_
        refine xc_region ?_
        refine xo_rd (rd_move rfl) rfl ?_
        refine xo_rd (rd_move rfl) rfl ?_
        refine xo_gskip rfl rfl rfl rfl ?_
        refine xo_rd (rd_pickf rfl rfl) rfl ?_
        refine xo_rd (rd_assign rfl) rfl ?_
        refine xo_nil ?_
        refine xq_block ?_
        refine xq_seq ?_
        refine xc_region ?_
        refine xo_rd (rd_move rfl) rfl ?_
        refine xo_rd (rd_addn rfl rfl (by omega) (by omega)) rfl ?_
        refine xo_rd (rd_assign rfl) rfl ?_
        refine xo_nil ?_
        rotate_left
        refine xm_one 5 (m' := 575) rfl (by kernel_rfl) rfl (by kernel_rfl) (ef_call rfl (XF.mono (hof1 _ (by intro z hz; simp [hz])) ?_))
        rintro v L' ⟨rfl, rfl⟩
        refine ⟨Sb.a, ?_⟩
        refine xm_take 6 (m' := 639) rfl (by kernel_rfl) Sb.a (rd_move rfl) rfl (by kernel_rfl) ?_
        refine xm_take 7 (m' := 767) rfl (by kernel_rfl) Sb.a (rd_extract rfl rfl) rfl (by kernel_rfl) ?_
        refine xm_take 8 (m' := 1023) rfl (by kernel_rfl) Sb.a (rd_extract rfl rfl) rfl (by kernel_rfl) ?_
        refine xm_one 10 (m' := 2047) rfl (by kernel_rfl) rfl (by kernel_rfl) (ef_storeB [] _ rfl rfl (by first | rfl | assumption) rfl rfl rfl ?_)
        refine ⟨Sb.a, ?_⟩
        refine xm_take 11 (m' := 4095) rfl (by kernel_rfl) Sb.a (rd_assign rfl) rfl (by kernel_rfl) ?_
        refine xm_done (by kernel_rfl) ?_
        refine xq_seq ?_
        refine xc_region ?_
        refine xo_rd (rd_move rfl) rfl ?_
        refine xo_rd (rd_move rfl) rfl ?_
        refine xo_gskip rfl rfl rfl rfl ?_
        refine xo_rd (rd_pickf rfl rfl) rfl ?_
        refine xo_rd (rd_assign rfl) rfl ?_
        refine xo_nil ?_
        refine xq_block ?_
        refine xq_seq ?_
        refine xc_region ?_
        refine xo_rd (rd_move rfl) rfl ?_
        refine xo_rd (rd_addn rfl rfl (by omega) (by omega)) rfl ?_
        refine xo_rd (rd_assign rfl) rfl ?_
        refine xo_nil ?_
        rotate_left
      all_goals exact xq_roundK rfl (i + 1, false) ⟨by dsimp only; omega, by dsimp only; rw [htk]; rfl⟩ (by dsimp only; omega) (List.sublist_cons_self _ _) (by repeat (first | exact keep_nil | refine keep_cons rfl ?_))
  · rw [List.take_of_length_le (by omega)] at hbi
    have hall : ((id :: cs).all fun k => (getId x.ms k).isSome) = b := by
      rw [hbi]; congr 1; funext k; exact (wx_get hids k).symm
    cases b with
    | false =>
      have hE : sbE x.ra id cs = 130 := by unfold sbE; rw [if_neg (by rw [show x.ra.ms = x.ms from rfl, hall]; decide)]
      have hJ : sbA x.ra id ct cs = x.ra := by unfold sbA; rw [if_neg (by rw [hE]; decide)]
      rw [hE, hJ]
      focus
        refine xc_seq ?_
        refine xc_seq ?_
        refine xc_region ?_
        refine xo_rd (rd_move rfl) rfl ?_
        refine xo_rd (rd_move rfl) rfl ?_
        refine xo_rd (rd_len rfl) rfl ?_
        refine xo_rd (rd_lss rfl rfl) rfl ?_
        refine xo_nil ?_
        refine xq_seq ?_
        refine xc_dec rfl (fun h1 => (by exfalso; omega)) (fun h1 => ?_)
        refine xc_exit ?_
        refine xq_then_exit ?_
        refine xq_then_exit ?_
        refine xq_block_hit ?_
        refine xq_seq ?_
        refine xc_seq ?_
        refine xc_seq ?_
        refine xc_region ?_
        refine xo_rd (rd_move rfl) rfl ?_
        refine xo_rd (rd_not rfl) rfl ?_
        refine xo_nil ?_
        refine xq_seq ?_
        refine xc_condt rfl ?_
        refine xc_seq ?_
        refine xc_region ?_
        refine xo_rd (rd_loadB rfl Kn.o2 (by rfl)) rfl ?_
        refine xo_ef rfl (ef_storeB [_] _ rfl rfl (by first | rfl | assumption) rfl rfl rfl ?_)
        refine xo_rd (rd_assign rfl) rfl ?_
        refine xo_nil ?_
        refine xq_seq ?_
        refine xc_ret ?_
        refine xq_then_ret ?_
      exact xq_retB2 (.inl rfl) Tryz.results34 rfl rfl Kn.o1 rfl (List.sublist_append_right [_, _, _] _) ⟨x, [], rfl, rfl, hx, rfl⟩
    | true =>
      have hsb : sbE x.ra id cs = if dupI id cs = true then 2 else 0 := by unfold sbE; rw [if_pos (by rw [show x.ra.ms = x.ms from rfl]; exact hall)]
      focus
        refine xc_seq ?_
        refine xc_seq ?_
        refine xc_region ?_
        refine xo_rd (rd_move rfl) rfl ?_
        refine xo_rd (rd_move rfl) rfl ?_
        refine xo_rd (rd_len rfl) rfl ?_
        refine xo_rd (rd_lss rfl rfl) rfl ?_
        refine xo_nil ?_
        refine xq_seq ?_
        refine xc_dec rfl (fun h1 => (by exfalso; omega)) (fun h1 => ?_)
        refine xc_exit ?_
        refine xq_then_exit ?_
        refine xq_then_exit ?_
        refine xq_block_hit ?_
        refine xq_seq ?_
        refine xc_seq ?_
        refine xc_seq ?_
        refine xc_region ?_
        refine xo_rd (rd_move rfl) rfl ?_
        refine xo_rd (rd_not rfl) rfl ?_
        refine xo_nil ?_
        refine xq_seq ?_
        refine xc_condf rfl ?_
        refine xc_skip ?_
        refine xq_seq ?_
        refine xc_seq ?_
        refine xc_seq ?_
        refine xc_region ?_
        refine xo_rd (rd_assign rfl) rfl ?_
        refine xo_nil ?_
        refine xq_seq ?_
        refine xc_block ?_
      refine xc_loopK (ι := Nat) (fun i => i ≤ n ∧ ∀ j, j < i → ¬ (cs.getD j 0 = id ∨ cs.getD j 0 ∈ cs.take j)) (fun i => n - i) (fun i => [(1, .int .i64 id), (2, .bool ct), (3, .slice p n c), (4, .pointer (some ⟨r4, 0, none⟩)), (8, .pointer (some ⟨r8, 0, none⟩)), (9, .int .i64 0), (15, .int .i64 i)]) 0 ⟨Nat.zero_le _, fun j hj => absurd hj (Nat.not_lt_zero _)⟩ (by repeat (first | exact keep_nil | refine keep_cons rfl ?_)) ?_
      rintro i ⟨hi, hno⟩
      by_cases hin : i < n
      · obtain ⟨bb, o, hpb, hc⟩ := hrL.int (i := i) (by omega)
        subst hpb
        have hc2 : ∀ L', (∀ z, z ∈ L → z ∈ L') → Cl W L' bb (o + (i : Int).toNat * 1) (.int .i64 cs[i]) := fun L' h => hc.mono h
        obtain ⟨k, hk⟩ : ∃ k, cs[i] = k := ⟨_, rfl⟩
        rw [hk] at hc2
        have hgd : cs.getD i 0 = k := by rw [List.getD_eq_getElem?_getD, List.getElem?_eq_getElem (by omega), hk]; rfl
        have hti : (cs.take i).length = i := by rw [List.length_take]; omega
        have hdup : (k = id ∨ k ∈ cs.take i) → sbE x.ra id cs = 2 := fun h => by
          rw [hsb, if_pos]
          rw [dupI_def, List.any_eq_true]
          exact ⟨i, List.mem_range.2 (by omega), by rw [hgd]; simpa using h⟩
        have hdJ : sbE x.ra id cs = 2 → sbA x.ra id ct cs = x.ra := fun h => by unfold sbA; rw [if_neg (by rw [h]; decide)]
        have hwt := fun L' (h : ∀ z, z ∈ L → z ∈ L') => xf_rwithout (W := W) (L := L') (some ⟨bb, o, none⟩) i c (cs.take i) hti (by have := (hrL.mono h).take i; rwa [show (ints .i64 cs).take i = ints .i64 (cs.take i) by simp [ints]] at this) (by omega) k
        by_cases hk1 : k = id
        · rw [hdJ (hdup (.inl hk1)), hdup (.inl hk1)]
          focus
            refine xc_seq ?_
            refine xc_seq ?_
            refine xc_region ?_
            refine xo_rd (rd_move rfl) rfl ?_
            refine xo_rd (rd_move rfl) rfl ?_
            refine xo_rd (rd_len rfl) rfl ?_
            refine xo_rd (rd_lss rfl rfl) rfl ?_
            refine xo_nil ?_
            refine xq_seq ?_
            refine xc_dec rfl (fun h1 => ?_) (fun h1 => (by exfalso; omega))
            refine xc_skip ?_
            refine xq_seq ?_
            refine xc_seq ?_
            refine xc_block ?_
            refine xc_seq ?_
            refine xc_drawML [0, 0, 3, 4, 0, 24, 32, 64, 64, 448, 64, 64, 3136, 4160, 8768, 16448, 64, 98368, 131136] [0, 0, 3, 4, 0, 24, 32, 64, 64, 448, 64, 64, 3136, 4160, 8768, 16448, 64, 98368, 131136] (by kernel_rfl) (by kernel_rfl) (by kernel_rfl) ?_
            refine xm_take 0 (m' := 1) rfl (by kernel_rfl) Sb.a (rd_move rfl) rfl (by kernel_rfl) ?_
            refine xm_take 1 (m' := 3) rfl (by kernel_rfl) Sb.a (rd_move rfl) rfl (by kernel_rfl) ?_
            refine xm_take 2 (m' := 7) rfl (by kernel_rfl) Sb.a (rd_indexAddr rfl rfl (by omega) (by omega)) rfl (by kernel_rfl) ?_
            refine xm_take 3 (m' := 15) rfl (by kernel_rfl) Sb.a (rd_load1 rfl (hc2 _ (by intro z hz; simp [hz]))) rfl (by kernel_rfl) ?_
            refine xm_take 4 (m' := 31) rfl (by kernel_rfl) Sb.a (rd_move rfl) rfl (by kernel_rfl) ?_
            refine xm_take 5 (m' := 63) rfl (by kernel_rfl) Sb.a (rd_eql rfl rfl) rfl (by kernel_rfl) ?_
            refine xm_take 6 (m' := 127) rfl (by kernel_rfl) Sb.a (rd_move rfl) rfl (by kernel_rfl) ?_
            refine xm_dec 60 rfl (fun h2 => ?_) (fun h2 => (by exfalso; omega))
            refine xm_gskip 7 (m' := 255) rfl (by kernel_rfl) Sb.a rfl rfl rfl rfl (by kernel_rfl) ?_
            refine xm_gskip 8 (m' := 511) rfl (by kernel_rfl) Sb.a rfl rfl rfl rfl (by kernel_rfl) ?_
            refine xm_gskip 9 (m' := 1023) rfl (by kernel_rfl) Sb.a rfl rfl rfl rfl (by kernel_rfl) ?_
            refine xm_gskip 10 (m' := 2047) rfl (by kernel_rfl) Sb.a rfl rfl rfl rfl (by kernel_rfl) ?_
            refine xm_gskip 11 (m' := 4095) rfl (by kernel_rfl) Sb.a rfl rfl rfl rfl (by kernel_rfl) ?_
            refine xm_gskip 12 (m' := 8191) rfl (by kernel_rfl) Sb.a rfl rfl rfl rfl (by kernel_rfl) ?_
            refine xm_gskip 13 (m' := 16383) rfl (by kernel_rfl) Sb.a rfl rfl rfl rfl (by kernel_rfl) ?_
            refine xm_gskip 14 (m' := 32767) rfl (by kernel_rfl) Sb.a rfl rfl rfl rfl (by kernel_rfl) ?_
            refine xm_gskip 15 (m' := 65535) rfl (by kernel_rfl) Sb.a rfl rfl rfl rfl (by kernel_rfl) ?_
            refine xm_gskip 16 (m' := 131071) rfl (by kernel_rfl) Sb.a rfl rfl rfl rfl (by kernel_rfl) ?_
            refine xm_gskip 17 (m' := 262143) rfl (by kernel_rfl) Sb.a rfl rfl rfl rfl (by kernel_rfl) ?_
            refine xm_take 18 (m' := 524287) rfl (by kernel_rfl) Sb.a (rd_pickt rfl rfl) rfl (by kernel_rfl) ?_
            refine xm_done (by kernel_rfl) ?_
            refine xq_seq ?_
            refine xc_condt rfl ?_
            refine xc_seq ?_
            refine xc_region ?_
            refine xo_rd (rd_loadB rfl Kn.o2 (by rfl)) rfl ?_
            refine xo_ef rfl (ef_storeB [_] _ rfl rfl (by first | rfl | assumption) rfl rfl rfl ?_)
            refine xo_rd (rd_assign rfl) rfl ?_
            refine xo_nil ?_
            refine xq_seq ?_
            refine xc_ret ?_
            refine xq_block_ret ?_
            refine xq_then_ret ?_
            refine xq_then_ret ?_
            refine xq_block_ret ?_
            refine xq_then_ret ?_
          exact xq_retB2 (.inl rfl) Tryz.results34 rfl rfl Kn.o1 rfl (List.sublist_append_right [_, _, _] _) ⟨x, [], rfl, rfl, hx, rfl⟩
        · by_cases hk2 : k ∈ cs.take i
          · rw [hdJ (hdup (.inr hk2)), hdup (.inr hk2)]
            have hlt : ((cs.take i).filter fun x => !decide (x = k)).length < i := by have := filter_lt.2 hk2; rwa [hti] at this
            focus
              refine xc_seq ?_
              refine xc_seq ?_
              refine xc_region ?_
              refine xo_rd (rd_move rfl) rfl ?_
              refine xo_rd (rd_move rfl) rfl ?_
              refine xo_rd (rd_len rfl) rfl ?_
              refine xo_rd (rd_lss rfl rfl) rfl ?_
              refine xo_nil ?_
              refine xq_seq ?_
              refine xc_dec rfl (fun h1 => ?_) (fun h1 => (by exfalso; omega))
              refine xc_skip ?_
              refine xq_seq ?_
              refine xc_seq ?_
              refine xc_block ?_
              refine xc_seq ?_
              refine xc_drawML [0, 0, 3, 4, 0, 24, 32, 64, 64, 448, 64, 64, 3136, 4160, 8768, 16448, 64, 98368, 131136] [0, 0, 3, 4, 0, 24, 32, 64, 64, 448, 64, 64, 3136, 4160, 8768, 16448, 64, 98368, 131136] (by kernel_rfl) (by kernel_rfl) (by kernel_rfl) ?_
              refine xm_take 0 (m' := 1) rfl (by kernel_rfl) Sb.a (rd_move rfl) rfl (by kernel_rfl) ?_
              refine xm_take 1 (m' := 3) rfl (by kernel_rfl) Sb.a (rd_move rfl) rfl (by kernel_rfl) ?_
              refine xm_take 2 (m' := 7) rfl (by kernel_rfl) Sb.a (rd_indexAddr rfl rfl (by omega) (by omega)) rfl (by kernel_rfl) ?_
              refine xm_take 3 (m' := 15) rfl (by kernel_rfl) Sb.a (rd_load1 rfl (hc2 _ (by intro z hz; simp [hz]))) rfl (by kernel_rfl) ?_
              refine xm_take 4 (m' := 31) rfl (by kernel_rfl) Sb.a (rd_move rfl) rfl (by kernel_rfl) ?_
              refine xm_take 5 (m' := 63) rfl (by kernel_rfl) Sb.a (rd_eql rfl rfl) rfl (by kernel_rfl) ?_
              refine xm_take 6 (m' := 127) rfl (by kernel_rfl) Sb.a (rd_move rfl) rfl (by kernel_rfl) ?_
              refine xm_dec 60 rfl (fun h2 => (by exfalso; omega)) (fun h2 => ?_)
              refine xm_gtake 7 (m' := 255) rfl (by kernel_rfl) Sb.a rfl rfl (rd_move rfl) rfl (by kernel_rfl) ?_
              refine xm_gtake 8 (m' := 511) rfl (by kernel_rfl) Sb.a rfl rfl (rd_move rfl) rfl (by kernel_rfl) ?_
              refine xm_gtake 9 (m' := 1023) rfl (by kernel_rfl) Sb.a rfl rfl (rd_cast (v' := .slice (some ⟨bb, o, none⟩) i c) (rd_slHi rfl rfl (by omega) (by omega)) rfl) rfl (by kernel_rfl) ?_
              refine xm_gtake 10 (m' := 2047) rfl (by kernel_rfl) Sb.a rfl rfl (rd_move rfl) rfl (by kernel_rfl) ?_
              refine xm_gtake 11 (m' := 4095) rfl (by kernel_rfl) Sb.a rfl rfl (rd_move rfl) rfl (by kernel_rfl) ?_
              refine xm_gtake 12 (m' := 8191) rfl (by kernel_rfl) Sb.a rfl rfl (rd_indexAddr rfl rfl (by omega) (by omega)) rfl (by kernel_rfl) ?_
              refine xm_gtake 13 (m' := 16383) rfl (by kernel_rfl) Sb.a rfl rfl (rd_load1 rfl (hc2 _ (by intro z hz; simp [hz]))) rfl (by kernel_rfl) ?_
              refine xm_gtake 16 (m' := 81919) rfl (by kernel_rfl) Sb.a rfl rfl (rd_move rfl) rfl (by kernel_rfl) ?_
              refine xm_gone 14 (m' := 98303) rfl (by kernel_rfl) rfl rfl rfl (by kernel_rfl) (ef_call rfl (XF.mono (hwt _ (by intro z hz; simp [hz])) ?_))
              rintro v L' ⟨q, kk, lb, rfl, hO2, rfl⟩
              refine xmx_seg [_, _, _] lb _ ?_
              refine ⟨Sb.a, ?_⟩
              refine xm_gtake 15 (m' := 131071) rfl (by kernel_rfl) Sb.a rfl rfl (rd_len rfl) rfl (by kernel_rfl) ?_
              refine xm_gtake 17 (m' := 262143) rfl (by kernel_rfl) Sb.a rfl rfl (rd_lss rfl rfl) rfl (by kernel_rfl) ?_
              refine xm_take 18 (m' := 524287) rfl (by kernel_rfl) Sb.a (rd_pickf rfl rfl) rfl (by kernel_rfl) ?_
              refine xm_done (by kernel_rfl) ?_
              refine xq_seq ?_
              refine xc_dec rfl (fun h3 => ?_) (fun h3 => (by exfalso; omega))
              refine xc_seq ?_
              refine xc_region ?_
              refine xo_rd (rd_loadB rfl Kn.o2 (by rfl)) rfl ?_
              refine xo_ef rfl (ef_storeB [_] _ rfl rfl (by first | rfl | assumption) rfl rfl rfl ?_)
              refine xo_rd (rd_assign rfl) rfl ?_
              refine xo_nil ?_
              refine xq_seq ?_
              refine xc_ret ?_
              refine xq_block_ret ?_
              refine xq_then_ret ?_
              refine xq_then_ret ?_
              refine xq_block_ret ?_
              refine xq_then_ret ?_
            exact xq_retB2 (.inl rfl) Tryz.results34 rfl rfl Kn.o1 rfl (List.sublist_append_right [_, _, _] _) ⟨x, lb, rfl, rfl, hx.mono fun z hz => List.mem_append_right _ hz, rfl⟩
          · have hlt : ¬ ((cs.take i).filter fun x => !decide (x = k)).length < i := fun h => hk2 (filter_lt.1 (by rw [hti]; exact h))
            focus
              refine xc_seq ?_
              refine xc_seq ?_
              refine xc_region ?_
              refine xo_rd (rd_move rfl) rfl ?_
              refine xo_rd (rd_move rfl) rfl ?_
              refine xo_rd (rd_len rfl) rfl ?_
              refine xo_rd (rd_lss rfl rfl) rfl ?_
              refine xo_nil ?_
              refine xq_seq ?_
              refine xc_dec rfl (fun h1 => ?_) (fun h1 => (by exfalso; omega))
              refine xc_skip ?_
              refine xq_seq ?_
              refine xc_seq ?_
              refine xc_block ?_
              refine xc_seq ?_
              refine xc_drawML [0, 0, 3, 4, 0, 24, 32, 64, 64, 448, 64, 64, 3136, 4160, 8768, 16448, 64, 98368, 131136] [0, 0, 3, 4, 0, 24, 32, 64, 64, 448, 64, 64, 3136, 4160, 8768, 16448, 64, 98368, 131136] (by kernel_rfl) (by kernel_rfl) (by kernel_rfl) ?_
              refine xm_take 0 (m' := 1) rfl (by kernel_rfl) Sb.a (rd_move rfl) rfl (by kernel_rfl) ?_
              refine xm_take 1 (m' := 3) rfl (by kernel_rfl) Sb.a (rd_move rfl) rfl (by kernel_rfl) ?_
              refine xm_take 2 (m' := 7) rfl (by kernel_rfl) Sb.a (rd_indexAddr rfl rfl (by omega) (by omega)) rfl (by kernel_rfl) ?_
              refine xm_take 3 (m' := 15) rfl (by kernel_rfl) Sb.a (rd_load1 rfl (hc2 _ (by intro z hz; simp [hz]))) rfl (by kernel_rfl) ?_
              refine xm_take 4 (m' := 31) rfl (by kernel_rfl) Sb.a (rd_move rfl) rfl (by kernel_rfl) ?_
              refine xm_take 5 (m' := 63) rfl (by kernel_rfl) Sb.a (rd_eql rfl rfl) rfl (by kernel_rfl) ?_
              refine xm_take 6 (m' := 127) rfl (by kernel_rfl) Sb.a (rd_move rfl) rfl (by kernel_rfl) ?_
              refine xm_dec 60 rfl (fun h2 => (by exfalso; omega)) (fun h2 => ?_)
              refine xm_gtake 7 (m' := 255) rfl (by kernel_rfl) Sb.a rfl rfl (rd_move rfl) rfl (by kernel_rfl) ?_
              refine xm_gtake 8 (m' := 511) rfl (by kernel_rfl) Sb.a rfl rfl (rd_move rfl) rfl (by kernel_rfl) ?_
              refine xm_gtake 9 (m' := 1023) rfl (by kernel_rfl) Sb.a rfl rfl (rd_cast (v' := .slice (some ⟨bb, o, none⟩) i c) (rd_slHi rfl rfl (by omega) (by omega)) rfl) rfl (by kernel_rfl) ?_
              refine xm_gtake 10 (m' := 2047) rfl (by kernel_rfl) Sb.a rfl rfl (rd_move rfl) rfl (by kernel_rfl) ?_
              refine xm_gtake 11 (m' := 4095) rfl (by kernel_rfl) Sb.a rfl rfl (rd_move rfl) rfl (by kernel_rfl) ?_
              refine xm_gtake 12 (m' := 8191) rfl (by kernel_rfl) Sb.a rfl rfl (rd_indexAddr rfl rfl (by omega) (by omega)) rfl (by kernel_rfl) ?_
              refine xm_gtake 13 (m' := 16383) rfl (by kernel_rfl) Sb.a rfl rfl (rd_load1 rfl (hc2 _ (by intro z hz; simp [hz]))) rfl (by kernel_rfl) ?_
              refine xm_gtake 16 (m' := 81919) rfl (by kernel_rfl) Sb.a rfl rfl (rd_move rfl) rfl (by kernel_rfl) ?_
              refine xm_gone 14 (m' := 98303) rfl (by kernel_rfl) rfl rfl rfl (by kernel_rfl) (ef_call rfl (XF.mono (hwt _ (by intro z hz; simp [hz])) ?_))
              rintro v L' ⟨q, kk, lb, rfl, hO2, rfl⟩
              refine xmx_seg [_, _, _] lb _ ?_
              refine ⟨Sb.a, ?_⟩
              refine xm_gtake 15 (m' := 131071) rfl (by kernel_rfl) Sb.a rfl rfl (rd_len rfl) rfl (by kernel_rfl) ?_
              refine xm_gtake 17 (m' := 262143) rfl (by kernel_rfl) Sb.a rfl rfl (rd_lss rfl rfl) rfl (by kernel_rfl) ?_
              refine xm_take 18 (m' := 524287) rfl (by kernel_rfl) Sb.a (rd_pickf rfl rfl) rfl (by kernel_rfl) ?_
              refine xm_done (by kernel_rfl) ?_
              refine xq_seq ?_
              refine xc_dec rfl (fun h3 => (by exfalso; omega)) (fun h3 => ?_)
              refine xc_skip ?_
              refine xq_block ?_
              refine xq_seq ?_
              refine xc_region ?_
              refine xo_rd (rd_move rfl) rfl ?_
              refine xo_rd (rd_addn rfl rfl (by omega) (by omega)) rfl ?_
              refine xo_rd (rd_assign rfl) rfl ?_
              refine xo_nil ?_
            refine xq_roundK rfl (i + 1) ⟨by omega, fun j hj => ?_⟩ (by omega) ((List.sublist_append_right lb L).append_left [_, _, _]) (by repeat (first | exact keep_nil | refine keep_cons rfl ?_))
            by_cases hji : j = i
            · subst hji; rw [hgd]; exact fun h => h.elim hk1 hk2
            · exact hno j (by omega)
      · have hE : sbE x.ra id cs = 0 := by
          rw [hsb, if_neg]
          rw [dupI_def, List.any_eq_true]
          rintro ⟨j, hj, he⟩
          exact hno j (by have := List.mem_range.1 hj; omega) (by simpa using he)
        have hJ : sbA x.ra id ct cs = { x.ra with ws := setW x.ra.ws ⟨id, ct, cs⟩ } := by unfold sbA; rw [if_pos hE]
        rw [hE, hJ]
        focus
          refine xc_seq ?_
          refine xc_seq ?_
          refine xc_region ?_
          refine xo_rd (rd_move rfl) rfl ?_
          refine xo_rd (rd_move rfl) rfl ?_
          refine xo_rd (rd_len rfl) rfl ?_
          refine xo_rd (rd_lss rfl rfl) rfl ?_
          refine xo_nil ?_
          refine xq_seq ?_
          refine xc_dec rfl (fun h1 => (by exfalso; omega)) (fun h1 => ?_)
          refine xc_exit ?_
          refine xq_then_exit ?_
          refine xq_then_exit ?_
          refine xq_block_hit ?_
          refine xq_seq ?_
          refine xc_seq ?_
          refine xc_region ?_
          refine xo_rd (rd_assign rfl) rfl ?_
          refine xo_nil ?_
          refine xq_seq ?_
          refine xc_seq ?_
          refine xc_seq ?_
          refine xc_region ?_
          refine xo_rd (rd_assign rfl) rfl ?_
          refine xo_nil ?_
          refine xq_seq ?_
          refine xc_block ?_
        refine xc_loopI (ι := SuS) (fun s => s.i ≤ x.ws.length ∧ s.ws.length = s.i ∧ s.ws.map Wx.a = setW ((x.ws.take s.i).map Wx.a) ⟨id, ct, cs⟩ ∧ SlQ 3 105 (.slice s.p s.ws.length s.c) s.ws.length (s.ws.flatMap Wx.enc) s.l ∧ (∀ u, u ∈ s.ws → Rs W (s.g ++ L0) u.p (ints .i64 u.a.cs) ∧ u.a.cs.length ≤ 1000)) (fun s => x.ws.length - s.i) (fun s => (r10, Obj.cells ((wxF x.ws id).getD wx0).enc.toArray 105 (0, 0)) :: (r8, Obj.cells (rrE (roE 0 none 0 0) (rfE 0 0 none 0 0 false 0 0 0 0 false none 0 0 none 0 0) none 0 0).toArray 45 (0, 0)) :: (r4, Obj.cells x.enc.toArray 45 (0, 0)) :: (s.l ++ (s.g ++ L))) (fun s => [(1, .int .i64 id), (2, .bool ct), (3, .slice p n c), (4, .pointer (some ⟨r4, 0, none⟩)), (8, .pointer (some ⟨r8, 0, none⟩)), (16, .slice s.p s.ws.length s.c), (17, .int .i64 s.i)]) ⟨0, [], none, 0, [], []⟩ ⟨Nat.zero_le _, rfl, rfl, SlQ.nil, fun u hu => by cases hu⟩ rfl (by repeat (first | exact keep_nil | refine keep_cons rfl ?_)) ?_
        rintro ⟨i, ws', xp1, xc1, xl1, gb⟩ ⟨hi, hwl, hwm, hO, hcs⟩
        dsimp only at hi hwl hwm hO hcs ⊢
        by_cases hin : i < x.ws.length
        · obtain ⟨b, o, hp, hc⟩ := hx.xs.rows Wx.len (by decide) (by omega)
          have hci := hc i hin
          obtain ⟨e, hee⟩ : ∃ e, x.ws[i] = e := ⟨_, rfl⟩
          rw [hee] at hci
          have hem : e ∈ x.ws := hee ▸ List.getElem_mem hin
          have hci2 : ∀ L', (∀ z, z ∈ L → z ∈ L') → ∀ j u, e.enc[j]? = some u → Cl W L' b (o + (i : Int).toNat * 3 + j) u := fun L' h j u hj => (hci j u hj).mono fun z hz => h z (hs z hz)
          have htk : x.ws.take (i + 1) = x.ws.take i ++ [e] := by rw [List.take_add_one, List.getElem?_eq_getElem hin, hee]; rfl
          have hset : ∀ u : Wx, (if e.a.id = id then (⟨id, ct, cs⟩ : Wa) else e.a) = u.a → (ws' ++ [u]).map Wx.a = setW ((x.ws.take (i + 1)).map Wx.a) ⟨id, ct, cs⟩ := fun u hu => by
            rw [htk, List.map_append, hwm, List.map_append]
            unfold setW
            rw [List.map_append]
            congr 1
            show [u.a] = [if e.a.id = id then (⟨id, ct, cs⟩ : Wa) else e.a]
            rw [hu]
          by_cases hid : e.a.id = id
          · have hu := hset ⟨⟨id, ct, cs⟩, none, 0⟩ (by rw [if_pos hid])
            have hrs := fun L' (h : ∀ z, z ∈ L → z ∈ L') => hrL.mono h
            focus
              refine xc_seq ?_
              refine xc_seq ?_
              refine xc_region ?_
              refine xo_rd (rd_move rfl) rfl ?_
              refine xo_rd (rd_fieldAddr rfl) rfl ?_
              refine xo_rd (rd_cast (v' := .slice (some ⟨b, o, none⟩) x.ws.length x.xc) (rd_load1 rfl (Cl.own (i := 13) (List.mem_cons_of_mem _ (List.mem_cons_of_mem _ List.mem_cons_self)) rfl)) (by rw [← hp]; rfl)) rfl ?_
              refine xo_rd (rd_len rfl) rfl ?_
              refine xo_rd (rd_lss rfl rfl) rfl ?_
              refine xo_nil ?_
              refine xq_seq ?_
              refine xc_dec rfl (fun h1 => ?_) (fun h1 => (by exfalso; omega))
              refine xc_skip ?_
              refine xq_seq ?_
              refine xc_seq ?_
              refine xc_block ?_
              refine xc_seq ?_
              refine xc_region ?_
              refine xo_rd (rd_fieldAddr rfl) rfl ?_
              refine xo_rd (rd_cast (v' := .slice (some ⟨b, o, none⟩) x.ws.length x.xc) (rd_load1 rfl (Cl.own (i := 13) (List.mem_cons_of_mem _ (List.mem_cons_of_mem _ List.mem_cons_self)) rfl)) (by rw [← hp]; rfl)) rfl ?_
              refine xo_rd (rd_move rfl) rfl ?_
              refine xo_rd (rd_indexAddr rfl rfl (by omega) (by omega)) rfl ?_
              refine xo_rd (rd_loadA (vs := e.enc) rfl rfl (hci2 _ (by intro z hz; simp [hz]))) rfl ?_
              refine xo_ef rfl (ef_alloc fun r18 => ?_)
              refine xo_ef rfl (ef_storeB [] _ rfl rfl (by first | rfl | assumption) rfl rfl rfl ?_)
              refine xo_nil ?_
              refine xq_seq ?_
              refine xc_seq ?_
              refine xc_seq ?_
              refine xc_region ?_
              refine xo_rd (rd_fieldAddr rfl) rfl ?_
              refine xo_rd (rd_load1 rfl (Cl.o0 rfl)) rfl ?_
              refine xo_rd (rd_move rfl) rfl ?_
              refine xo_rd (rd_eql rfl rfl) rfl ?_
              refine xo_nil ?_
              refine xq_seq ?_
              refine xc_dec rfl (fun h2 => ?_) (fun h2 => (by exfalso; omega))
              refine xc_seq ?_
              refine xc_region ?_
              refine xo_rd (rd_assign rfl) rfl ?_
              refine xo_nil ?_
              refine xq_seq ?_
              refine xc_region ?_
              refine xo_rd (rd_move rfl) rfl ?_
              refine xo_rd (rd_move rfl) rfl ?_
              refine xo_rd (rd_move rfl) rfl ?_
              refine xo_rd (rd_move rfl) rfl ?_
              refine xo_ef rfl (ef_appendQS [_, _, _, _] (xl1 ++ (gb ++ L)) [] (news := ints .i64 cs) rfl rfl SlQ.nil rfl (hrs _ (by intro z hz; simp [hz])) (by simp [ints, hn]) (ints_one _ _) (by decide) (by omega) (by omega) fun q kk lb hO2 hk2 => ?_)
              refine xo_rd (rd_cast (v' := .agg (Wx.enc ⟨⟨id, ct, cs⟩, q, kk⟩).toArray) (rd_build (T := 105) rfl rfl rfl) (by simp only [Wx.enc, xwE, Nat.zero_add, hn]; rfl)) rfl ?_
              refine xo_ef rfl (ef_storeB [] _ rfl rfl (by first | rfl | assumption) rfl rfl rfl ?_)
              refine xo_nil ?_
              refine xq_seq ?_
              refine xc_region ?_
              refine xo_rd (rd_move rfl) rfl ?_
              refine xo_rd (rd_loadB rfl Kn.o0 (by rfl)) rfl ?_
              refine xo_ef rfl (ef_sliceA (vs := Wx.enc ⟨⟨id, ct, cs⟩, q, kk⟩) rfl rfl (by rw [Wx.len]; decide) (by rw [Wx.len]; decide) fun r98 => ?_)
              refine xo_ef rfl (ef_appendQS (_ :: _ :: _ :: _ :: _ :: lb) (gb ++ L) xl1 (news := Wx.enc ⟨⟨id, ct, cs⟩, q, kk⟩) rfl rfl hO rfl (Rs.fresh (List.Mem.head _)) rfl rfl (by decide) (by omega) (by omega) fun xp2 xc2 xl2 hO3 hk3 => ?_)
              refine xo_rd (rd_assign rfl) rfl ?_
              refine xo_nil ?_
              refine xq_block ?_
              refine xq_seq ?_
              refine xc_region ?_
              refine xo_rd (rd_move rfl) rfl ?_
              refine xo_rd (rd_addn rfl rfl (by omega) (by omega)) rfl ?_
              refine xo_rd (rd_assign rfl) rfl ?_
              refine xo_nil ?_
            refine xq_sub (List.sublist_append_right [_, _] _) (xq_perm (((seg_perm lb xl2 (gb ++ L)).trans (List.Perm.of_eq (by rw [List.append_assoc lb gb]))).cons _ |>.cons _ |>.cons _) (xq_roundI (⟨i + 1, ws' ++ [⟨⟨id, ct, cs⟩, q, kk⟩], xp2, xc2, xl2, lb ++ gb⟩ : SuS) ⟨by dsimp only; omega, by dsimp only; rw [List.length_append, hwl]; rfl, hset ⟨⟨id, ct, cs⟩, q, kk⟩ (by rw [if_pos hid]), by dsimp only; rw [List.length_append, List.flatMap_append, List.flatMap_singleton]; exact hO3, fun u hu => ?_⟩ (by dsimp only; omega) rfl (by dsimp only; rw [List.length_append]; exact (by repeat (first | exact keep_nil | refine keep_cons rfl ?_)))))
            rcases List.mem_append.1 hu with h | h
            · exact ⟨(hcs u h).1.mono (by intro z hz; simp [hz]), (hcs u h).2⟩
            · obtain rfl := List.mem_singleton.1 h
              exact ⟨hO2.rs (by intro z hz; simp [hz]), by dsimp only; omega⟩
          · skip
            focus
              refine xc_seq ?_
              refine xc_seq ?_
              refine xc_region ?_
              refine xo_rd (rd_move rfl) rfl ?_
              refine xo_rd (rd_fieldAddr rfl) rfl ?_
              refine xo_rd (rd_cast (v' := .slice (some ⟨b, o, none⟩) x.ws.length x.xc) (rd_load1 rfl (Cl.own (i := 13) (List.mem_cons_of_mem _ (List.mem_cons_of_mem _ List.mem_cons_self)) rfl)) (by rw [← hp]; rfl)) rfl ?_
              refine xo_rd (rd_len rfl) rfl ?_
              refine xo_rd (rd_lss rfl rfl) rfl ?_
              refine xo_nil ?_
              refine xq_seq ?_
              refine xc_dec rfl (fun h1 => ?_) (fun h1 => (by exfalso; omega))
              refine xc_skip ?_
              refine xq_seq ?_
              refine xc_seq ?_
              refine xc_block ?_
              refine xc_seq ?_
              refine xc_region ?_
              refine xo_rd (rd_fieldAddr rfl) rfl ?_
              refine xo_rd (rd_cast (v' := .slice (some ⟨b, o, none⟩) x.ws.length x.xc) (rd_load1 rfl (Cl.own (i := 13) (List.mem_cons_of_mem _ (List.mem_cons_of_mem _ List.mem_cons_self)) rfl)) (by rw [← hp]; rfl)) rfl ?_
              refine xo_rd (rd_move rfl) rfl ?_
              refine xo_rd (rd_indexAddr rfl rfl (by omega) (by omega)) rfl ?_
              refine xo_rd (rd_loadA (vs := e.enc) rfl rfl (hci2 _ (by intro z hz; simp [hz]))) rfl ?_
              refine xo_ef rfl (ef_alloc fun r18 => ?_)
              refine xo_ef rfl (ef_storeB [] _ rfl rfl (by first | rfl | assumption) rfl rfl rfl ?_)
              refine xo_nil ?_
              refine xq_seq ?_
              refine xc_seq ?_
              refine xc_seq ?_
              refine xc_region ?_
              refine xo_rd (rd_fieldAddr rfl) rfl ?_
              refine xo_rd (rd_load1 rfl (Cl.o0 rfl)) rfl ?_
              refine xo_rd (rd_move rfl) rfl ?_
              refine xo_rd (rd_eql rfl rfl) rfl ?_
              refine xo_nil ?_
              refine xq_seq ?_
              refine xc_dec rfl (fun h2 => (by exfalso; omega)) (fun h2 => ?_)
              refine xc_skip ?_
              refine xq_seq ?_
              refine xc_region ?_
              refine xo_rd (rd_move rfl) rfl ?_
              refine xo_rd (rd_loadB rfl Kn.o0 (by rfl)) rfl ?_
              refine xo_ef rfl (ef_sliceA (vs := e.enc) rfl rfl (by rw [Wx.len]; decide) (by rw [Wx.len]; decide) fun r98 => ?_)
              refine xo_ef rfl (ef_appendQS [_, _, _, _, _] (gb ++ L) xl1 (news := e.enc) rfl rfl hO rfl (Rs.fresh (List.Mem.head _)) rfl rfl (by decide) (by omega) (by omega) fun xp2 xc2 xl2 hO3 hk3 => ?_)
              refine xo_rd (rd_assign rfl) rfl ?_
              refine xo_nil ?_
              refine xq_block ?_
              refine xq_seq ?_
              refine xc_region ?_
              refine xo_rd (rd_move rfl) rfl ?_
              refine xo_rd (rd_addn rfl rfl (by omega) (by omega)) rfl ?_
              refine xo_rd (rd_assign rfl) rfl ?_
              refine xo_nil ?_
            refine xq_sub (List.sublist_append_right [_, _] _) (xq_roundI (⟨i + 1, ws' ++ [e], xp2, xc2, xl2, gb⟩ : SuS) ⟨by dsimp only; omega, by dsimp only; rw [List.length_append, hwl]; rfl, hset e (by rw [if_neg hid]), by dsimp only; rw [List.length_append, List.flatMap_append, List.flatMap_singleton]; exact hO3, fun u hu => ?_⟩ (by dsimp only; omega) rfl (by dsimp only; rw [List.length_append]; exact (by repeat (first | exact keep_nil | refine keep_cons rfl ?_))))
            rcases List.mem_append.1 hu with h | h
            · exact hcs u h
            · obtain rfl := List.mem_singleton.1 h
              exact ⟨(hx.w u hem).mono fun z hz => List.mem_append_right _ hz, hx.cl u hem⟩
        · rw [List.take_of_length_le (by omega)] at hwm
          focus
            refine xc_seq ?_
            refine xc_seq ?_
            refine xc_region ?_
            refine xo_rd (rd_move rfl) rfl ?_
            refine xo_rd (rd_fieldAddr rfl) rfl ?_
            refine xo_rd (rd_load1 rfl (Cl.o2 rfl)) rfl ?_
            refine xo_rd (rd_len rfl) rfl ?_
            refine xo_rd (rd_lss rfl rfl) rfl ?_
            refine xo_nil ?_
            refine xq_seq ?_
            refine xc_dec rfl (fun h1 => (by exfalso; omega)) (fun h1 => ?_)
            refine xc_exit ?_
            refine xq_then_exit ?_
            refine xq_then_exit ?_
            refine xq_block_hit ?_
            refine xq_seq ?_
            refine xc_seq ?_
            refine xc_region ?_
            refine xo_rd (rd_move rfl) rfl ?_
            refine xo_rd (rd_fieldAddr rfl) rfl ?_
            refine xo_ef rfl (ef_store1 [_, _] _ rfl rfl (by first | rfl | assumption) rfl rfl rfl ?_)
            refine xo_nil ?_
            refine xq_seq ?_
            refine xc_seq ?_
            refine xc_region ?_
            refine xo_rd (rd_loadB rfl Kn.o2 (by rfl)) rfl ?_
            refine xo_ef rfl (ef_storeB [_] _ rfl rfl (by first | rfl | assumption) rfl rfl rfl ?_)
            refine xo_rd (rd_assign rfl) rfl ?_
            refine xo_nil ?_
            refine xq_seq ?_
            refine xc_ret ?_
          exact xq_retB2 (.inl rfl) Tryz.results34 rfl rfl Kn.o1 rfl (List.sublist_append_right [_, _, _] _) ⟨⟨x.most, x.ms, x.rp, x.rc, x.f, ws', xp1, xc1⟩, xl1 ++ gb, rfl, by simp only [Rr.ra, hwm], ⟨hx.r.mono (by intro z hz; simp [hz]), hx.f.mono (by intro z hz; simp [hz]), hO.rs (by intro z hz; simp [hz]), fun u hu => (hcs u hu).1.mono (by intro z hz; simp [hz]), hx.ml, by dsimp only; omega, fun u hu => (hcs u hu).2⟩, by simp only [List.append_assoc]; rfl⟩
end Go.Proofs.YtmdeajdaeihniaaGreat.X
/-
  Chapter 25: the reference's room: new ones, its audience, and who views: walks of my own.
-/
namespace Go.Proofs.YtmdeajdaeihniaaGreat.X
open Go Go.RowKit
set_option linter.unusedVariables false
set_option linter.unusedSimpArgs false
def newRr (m q s : Int) : Rr := ⟨m, [], none, 0, newRf q s, [], none, 0⟩
theorem newRr_at {W : World} (m q s : Int) : (newRr m q s).At W [] := ⟨Rs.nil, newRf_at q s, Rs.nil, (fun u hu => by cases hu), Nat.zero_le _, Nat.zero_le _, (fun u hu => by cases hu)⟩
theorem xf_r2New {W : World} {L : List Blk} (m q s : Int) (hm : 0 ≤ m ∧ m ≤ 32) (hq : 0 ≤ q ∧ q ≤ 32) (hs : 1 ≤ s) : XF Tryz.prog W 8 #[.int .i64 m, .int .i64 q, .int .u64 s] L (fun v L' => v = .tuple #[.agg (newRr m q s).enc.toArray, .int .i64 0] ∧ L' = L) := by
  refine xf_enter (args := [_, _, _]) Tryz.func8 rfl Tryz.ntmps8 rfl ?_
  have h1 := fun L' => xf_rnew (W := W) (L := L') m hm
  have h2 := fun L' => xf_rNew (W := W) (L := L') q s hq hs
  focus
    refine xc_seq ?_
    refine xc_region ?_
    refine xo_ef rfl (ef_alloc fun r6 => ?_)
    refine xo_rd (rd_assign rfl) rfl ?_
    refine xo_nil ?_
    refine xq_seq ?_
    refine xc_seq ?_
    refine xc_region ?_
    refine xo_rd (rd_move rfl) rfl ?_
    refine xo_ef rfl (ef_call rfl (XF.mono (h1 _) ?_))
    rintro v L' ⟨rfl, rfl⟩
    refine xo_rd (rd_move rfl) rfl ?_
    refine xo_rd (rd_extract rfl rfl) rfl ?_
    refine xo_rd (rd_extract rfl rfl) rfl ?_
    refine xo_ef rfl (ef_alloc fun r8 => ?_)
    refine xo_ef rfl (ef_storeB [] _ rfl rfl (by first | rfl | assumption) rfl rfl rfl ?_)
    refine xo_rd (rd_assign rfl) rfl ?_
    refine xo_nil ?_
    refine xq_seq ?_
    refine xc_seq ?_
    refine xc_region ?_
    refine xo_rd (rd_move rfl) rfl ?_
    refine xo_rd (rd_move rfl) rfl ?_
    refine xo_ef rfl (ef_call rfl (XF.mono (h2 _) ?_))
    rintro v L' ⟨rfl, rfl⟩
    refine xo_rd (rd_move rfl) rfl ?_
    refine xo_rd (rd_extract rfl rfl) rfl ?_
    refine xo_rd (rd_extract rfl rfl) rfl ?_
    refine xo_ef rfl (ef_alloc fun r10 => ?_)
    refine xo_ef rfl (ef_storeB [] _ rfl rfl (by first | rfl | assumption) rfl rfl rfl ?_)
    refine xo_rd (rd_assign rfl) rfl ?_
    refine xo_nil ?_
    refine xq_seq ?_
    refine xc_seq ?_
    refine xc_seq ?_
    refine xc_region ?_
    refine xo_rd (rd_move rfl) rfl ?_
    refine xo_rd (rd_neq rfl rfl) rfl ?_
    refine xo_rd (rd_move rfl) rfl ?_
    refine xo_grd rfl rfl (rd_move rfl) rfl ?_
    refine xo_grd rfl rfl (rd_neq rfl rfl) rfl ?_
    refine xo_rd (rd_pickf rfl rfl) rfl ?_
    refine xo_nil ?_
    refine xq_seq ?_
    refine xc_condf rfl ?_
    refine xc_skip ?_
    refine xq_seq ?_
    refine xc_seq ?_
    refine xc_region ?_
    refine xo_rd (rd_loadB rfl Kn.o1 (by rfl)) rfl ?_
    refine xo_rd (rd_loadB rfl Kn.o0 (by rfl)) rfl ?_
    refine xo_rd (rd_cast (v' := .agg (newRr m q s).enc.toArray) (rd_build (T := 45) rfl rfl rfl) (by kernel_rfl)) rfl ?_
    refine xo_ef rfl (ef_storeB [_, _] _ rfl rfl (by first | rfl | assumption) rfl rfl rfl ?_)
    refine xo_rd (rd_assign rfl) rfl ?_
    refine xo_nil ?_
    refine xq_seq ?_
    refine xc_ret ?_
  exact xq_retB2 (.inl rfl) Tryz.results8 rfl rfl Kn.o2 rfl (List.sublist_append_right [_, _, _] _) ⟨rfl, rfl⟩
theorem xf_r2NewE {W : World} {L : List Blk} (m q s : Int) (h0 : 0 ≤ s) (h : ¬ ((0 ≤ m ∧ m ≤ 32) ∧ (0 ≤ q ∧ q ≤ 32) ∧ 1 ≤ s)) : XF Tryz.prog W 8 #[.int .i64 m, .int .i64 q, .int .u64 s] L (fun v L' => ∃ ws : List Value, v = .tuple #[.agg ws.toArray, .int .i64 2] ∧ ws.length = 14 ∧ ws.all (·.oneCell') = true ∧ L' = L) := by
  refine xf_enter (args := [_, _, _]) Tryz.func8 rfl Tryz.ntmps8 rfl ?_
  by_cases hm : 0 ≤ m ∧ m ≤ 32
  · have hb : q < 0 ∨ 32 < q ∨ s = 0 := by omega
    have h1 := fun L' => xf_rnew (W := W) (L := L') m hm
    have h2 := fun L' => xf_rNewE (W := W) (L := L') q s hb
    focus
      refine xc_seq ?_
      refine xc_region ?_
      refine xo_ef rfl (ef_alloc fun r6 => ?_)
      refine xo_rd (rd_assign rfl) rfl ?_
      refine xo_nil ?_
      refine xq_seq ?_
      refine xc_seq ?_
      refine xc_region ?_
      refine xo_rd (rd_move rfl) rfl ?_
      refine xo_ef rfl (ef_call rfl (XF.mono (h1 _) ?_))
      rintro v L' ⟨rfl, rfl⟩
      refine xo_rd (rd_move rfl) rfl ?_
      refine xo_rd (rd_extract rfl rfl) rfl ?_
      refine xo_rd (rd_extract rfl rfl) rfl ?_
      refine xo_ef rfl (ef_alloc fun r8 => ?_)
      refine xo_ef rfl (ef_storeB [] _ rfl rfl (by first | rfl | assumption) rfl rfl rfl ?_)
      refine xo_rd (rd_assign rfl) rfl ?_
      refine xo_nil ?_
      refine xq_seq ?_
      refine xc_seq ?_
      refine xc_region ?_
      refine xo_rd (rd_move rfl) rfl ?_
      refine xo_rd (rd_move rfl) rfl ?_
      refine xo_ef rfl (ef_call rfl (XF.mono (h2 _) ?_))
      rintro v L' ⟨rfl, rfl⟩
      refine xo_rd (rd_move rfl) rfl ?_
      refine xo_rd (rd_extract rfl rfl) rfl ?_
      refine xo_rd (rd_extract rfl rfl) rfl ?_
      refine xo_ef rfl (ef_alloc fun r10 => ?_)
      refine xo_ef rfl (ef_storeB [] _ rfl rfl (by first | rfl | assumption) rfl rfl rfl ?_)
      refine xo_rd (rd_assign rfl) rfl ?_
      refine xo_nil ?_
      refine xq_seq ?_
      refine xc_seq ?_
      refine xc_seq ?_
      refine xc_region ?_
      refine xo_rd (rd_move rfl) rfl ?_
      refine xo_rd (rd_neq rfl rfl) rfl ?_
      refine xo_rd (rd_move rfl) rfl ?_
      refine xo_grd rfl rfl (rd_move rfl) rfl ?_
      refine xo_grd rfl rfl (rd_neq rfl rfl) rfl ?_
      refine xo_rd (rd_pickf rfl rfl) rfl ?_
      refine xo_nil ?_
      refine xq_seq ?_
      refine xc_condt rfl ?_
      refine xc_seq ?_
      refine xc_region ?_
      refine xo_rd (rd_build rfl rfl rfl) rfl ?_
      refine xo_ef rfl (ef_storeB [_, _] _ rfl rfl (by first | rfl | assumption) rfl rfl rfl ?_)
      refine xo_rd (rd_assign rfl) rfl ?_
      refine xo_nil ?_
      refine xq_seq ?_
      refine xc_ret ?_
      refine xq_then_ret ?_
    exact xq_retB2 (.inl rfl) Tryz.results8 rfl rfl Kn.o2 rfl (List.sublist_append_right [_, _, _] _) ⟨_, rfl, rfl, rfl, rfl⟩
  · have h1 := fun L' => xf_rnew_bad (W := W) (L := L') m (by omega)
    by_cases hq : (0 ≤ q ∧ q ≤ 32) ∧ 1 ≤ s
    · have h2 := fun L' => xf_rNew (W := W) (L := L') q s hq.1 hq.2
      focus
        refine xc_seq ?_
        refine xc_region ?_
        refine xo_ef rfl (ef_alloc fun r6 => ?_)
        refine xo_rd (rd_assign rfl) rfl ?_
        refine xo_nil ?_
        refine xq_seq ?_
        refine xc_seq ?_
        refine xc_region ?_
        refine xo_rd (rd_move rfl) rfl ?_
        refine xo_ef rfl (ef_call rfl (XF.mono (h1 _) ?_))
        rintro v L' ⟨rfl, rfl⟩
        refine xo_rd (rd_move rfl) rfl ?_
        refine xo_rd (rd_extract rfl rfl) rfl ?_
        refine xo_rd (rd_extract rfl rfl) rfl ?_
        refine xo_ef rfl (ef_alloc fun r8 => ?_)
        refine xo_ef rfl (ef_storeB [] _ rfl rfl (by first | rfl | assumption) rfl rfl rfl ?_)
        refine xo_rd (rd_assign rfl) rfl ?_
        refine xo_nil ?_
        refine xq_seq ?_
        refine xc_seq ?_
        refine xc_region ?_
        refine xo_rd (rd_move rfl) rfl ?_
        refine xo_rd (rd_move rfl) rfl ?_
        refine xo_ef rfl (ef_call rfl (XF.mono (h2 _) ?_))
        rintro v L' ⟨rfl, rfl⟩
        refine xo_rd (rd_move rfl) rfl ?_
        refine xo_rd (rd_extract rfl rfl) rfl ?_
        refine xo_rd (rd_extract rfl rfl) rfl ?_
        refine xo_ef rfl (ef_alloc fun r10 => ?_)
        refine xo_ef rfl (ef_storeB [] _ rfl rfl (by first | rfl | assumption) rfl rfl rfl ?_)
        refine xo_rd (rd_assign rfl) rfl ?_
        refine xo_nil ?_
        refine xq_seq ?_
        refine xc_seq ?_
        refine xc_seq ?_
        refine xc_region ?_
        refine xo_rd (rd_move rfl) rfl ?_
        refine xo_rd (rd_neq rfl rfl) rfl ?_
        refine xo_rd (rd_move rfl) rfl ?_
        refine xo_gskip rfl rfl rfl rfl ?_
        refine xo_gskip rfl rfl rfl rfl ?_
        refine xo_rd (rd_pickt rfl rfl) rfl ?_
        refine xo_nil ?_
        refine xq_seq ?_
        refine xc_condt rfl ?_
        refine xc_seq ?_
        refine xc_region ?_
        refine xo_rd (rd_build rfl rfl rfl) rfl ?_
        refine xo_ef rfl (ef_storeB [_, _] _ rfl rfl (by first | rfl | assumption) rfl rfl rfl ?_)
        refine xo_rd (rd_assign rfl) rfl ?_
        refine xo_nil ?_
        refine xq_seq ?_
        refine xc_ret ?_
        refine xq_then_ret ?_
      exact xq_retB2 (.inl rfl) Tryz.results8 rfl rfl Kn.o2 rfl (List.sublist_append_right [_, _, _] _) ⟨_, rfl, rfl, rfl, rfl⟩
    · have h2 := fun L' => xf_rNewE (W := W) (L := L') q s (by omega)
      focus
        refine xc_seq ?_
        refine xc_region ?_
        refine xo_ef rfl (ef_alloc fun r6 => ?_)
        refine xo_rd (rd_assign rfl) rfl ?_
        refine xo_nil ?_
        refine xq_seq ?_
        refine xc_seq ?_
        refine xc_region ?_
        refine xo_rd (rd_move rfl) rfl ?_
        refine xo_ef rfl (ef_call rfl (XF.mono (h1 _) ?_))
        rintro v L' ⟨rfl, rfl⟩
        refine xo_rd (rd_move rfl) rfl ?_
        refine xo_rd (rd_extract rfl rfl) rfl ?_
        refine xo_rd (rd_extract rfl rfl) rfl ?_
        refine xo_ef rfl (ef_alloc fun r8 => ?_)
        refine xo_ef rfl (ef_storeB [] _ rfl rfl (by first | rfl | assumption) rfl rfl rfl ?_)
        refine xo_rd (rd_assign rfl) rfl ?_
        refine xo_nil ?_
        refine xq_seq ?_
        refine xc_seq ?_
        refine xc_region ?_
        refine xo_rd (rd_move rfl) rfl ?_
        refine xo_rd (rd_move rfl) rfl ?_
        refine xo_ef rfl (ef_call rfl (XF.mono (h2 _) ?_))
        rintro v L' ⟨rfl, rfl⟩
        refine xo_rd (rd_move rfl) rfl ?_
        refine xo_rd (rd_extract rfl rfl) rfl ?_
        refine xo_rd (rd_extract rfl rfl) rfl ?_
        refine xo_ef rfl (ef_alloc fun r10 => ?_)
        refine xo_ef rfl (ef_storeB [] _ rfl rfl (by first | rfl | assumption) rfl rfl rfl ?_)
        refine xo_rd (rd_assign rfl) rfl ?_
        refine xo_nil ?_
        refine xq_seq ?_
        refine xc_seq ?_
        refine xc_seq ?_
        refine xc_region ?_
        refine xo_rd (rd_move rfl) rfl ?_
        refine xo_rd (rd_neq rfl rfl) rfl ?_
        refine xo_rd (rd_move rfl) rfl ?_
        refine xo_gskip rfl rfl rfl rfl ?_
        refine xo_gskip rfl rfl rfl rfl ?_
        refine xo_rd (rd_pickt rfl rfl) rfl ?_
        refine xo_nil ?_
        refine xq_seq ?_
        refine xc_condt rfl ?_
        refine xc_seq ?_
        refine xc_region ?_
        refine xo_rd (rd_build rfl rfl rfl) rfl ?_
        refine xo_ef rfl (ef_storeB [_, _] _ rfl rfl (by first | rfl | assumption) rfl rfl rfl ?_)
        refine xo_rd (rd_assign rfl) rfl ?_
        refine xo_nil ?_
        refine xq_seq ?_
        refine xc_ret ?_
        refine xq_then_ret ?_
      exact xq_retB2 (.inl rfl) Tryz.results8 rfl rfl Kn.o2 rfl (List.sublist_append_right [_, _, _] _) ⟨_, rfl, rfl, rfl, rfl⟩
def audL (ws : List Wa) (he : Bool) (who : Int) : List Int := (ws.filter fun w => w.ct && !(he && decide (who = w.id))).map Wa.id
theorem audL_snoc (ws : List Wa) (w : Wa) (he : Bool) (who : Int) : audL (ws ++ [w]) he who = audL ws he who ++ if (w.ct && !(he && decide (who = w.id))) = true then [w.id] else [] := by
  unfold audL
  rw [List.filter_append, List.map_append]
  congr 1
  by_cases h : (w.ct && !(he && decide (who = w.id))) = true
  · rw [if_pos h, List.filter_cons, if_pos h]; rfl
  · rw [if_neg h, List.filter_cons, if_neg h]; rfl
theorem audL_le (ws : List Wa) (he : Bool) (who : Int) : (audL ws he who).length ≤ ws.length := by
  unfold audL; rw [List.length_map]; exact List.length_filter_le _ _
set_option maxHeartbeats 800000 in
theorem xf_r2Audience {W : World} {L : List Blk} (x : Rr) (hx : x.At W L) (hw : 0 ≤ x.f.a.who ∧ x.f.a.who ≤ 4294967295) : XF Tryz.prog W 52 #[.agg x.enc.toArray] L (fun v L' => ∃ q kk lb, v = .slice q (audL x.ra.ws x.f.a.held x.f.a.who).length kk ∧ SlQ 1 3 (.slice q (audL x.ra.ws x.f.a.held x.f.a.who).length kk) (audL x.ra.ws x.f.a.held x.f.a.who).length (ints .i64 (audL x.ra.ws x.f.a.held x.f.a.who)) lb ∧ L' = lb ++ L) := by
  have hxl := hx.xl
  refine xf_enter (args := [_]) Tryz.func52 rfl Tryz.ntmps52 rfl ?_
  focus
    refine xc_seq ?_
    refine xc_region ?_
    refine xo_ef rfl (ef_box rfl fun r1 => ?_)
    refine xo_rd (rd_assign rfl) rfl ?_
    refine xo_nil ?_
    refine xq_seq ?_
    refine xc_seq ?_
    refine xc_region ?_
    refine xo_rd (rd_assign rfl) rfl ?_
    refine xo_nil ?_
    refine xq_seq ?_
    refine xc_seq ?_
    refine xc_seq ?_
    refine xc_region ?_
    refine xo_rd (rd_assign rfl) rfl ?_
    refine xo_nil ?_
    refine xq_seq ?_
    refine xc_block ?_
  refine xc_loopI (ι := Nat × (Option Addr × Nat × List Blk)) (fun s => s.1 ≤ x.ws.length ∧ SlQ 1 3 (.slice s.2.1 (audL ((x.ws.take s.1).map Wx.a) x.f.a.held x.f.a.who).length s.2.2.1) (audL ((x.ws.take s.1).map Wx.a) x.f.a.held x.f.a.who).length (ints .i64 (audL ((x.ws.take s.1).map Wx.a) x.f.a.held x.f.a.who)) s.2.2.2) (fun s => x.ws.length - s.1) (fun s => (r1, Obj.cells x.enc.toArray 45 (0, 0)) :: (s.2.2.2 ++ L)) (fun s => [(1, .pointer (some ⟨r1, 0, none⟩)), (3, .slice s.2.1 (audL ((x.ws.take s.1).map Wx.a) x.f.a.held x.f.a.who).length s.2.2.1), (4, .int .i64 s.1)]) (0, none, 0, []) ⟨Nat.zero_le _, by dsimp only; rw [List.take_zero]; exact SlQ.nil⟩ rfl (by dsimp only; rw [List.take_zero]; exact (by repeat (first | exact keep_nil | refine keep_cons rfl ?_))) ?_
  rintro ⟨i, q, kk, lb⟩ ⟨hi, hsl⟩
  dsimp only at hi hsl ⊢
  by_cases hin : i < x.ws.length
  · obtain ⟨b, o, hp, hc⟩ := hx.xs.rows Wx.len (by decide) (by omega)
    have hci := hc i hin
    obtain ⟨e, hee⟩ : ∃ e, x.ws[i] = e := ⟨_, rfl⟩
    rw [hee] at hci
    have hci2 : ∀ L', (∀ z, z ∈ L → z ∈ L') → ∀ j u, e.enc[j]? = some u → Cl W L' b (o + (i : Int).toNat * 3 + j) u := fun L' h j u hj => (hci j u hj).mono h
    have htk : (x.ws.take (i + 1)).map Wx.a = (x.ws.take i).map Wx.a ++ [e.a] := by rw [List.take_add_one, List.getElem?_eq_getElem hin, hee, List.map_append]; rfl
    have hll := audL_le ((x.ws.take i).map Wx.a) x.f.a.held x.f.a.who
    rw [List.length_map, List.length_take] at hll
    have hno : ¬ (e.a.ct && !(x.f.a.held && decide (x.f.a.who = e.a.id))) = true → audL ((x.ws.take (i + 1)).map Wx.a) x.f.a.held x.f.a.who = audL ((x.ws.take i).map Wx.a) x.f.a.held x.f.a.who := fun h => by rw [htk, audL_snoc, if_neg h, List.append_nil]
    have hyes : (e.a.ct && !(x.f.a.held && decide (x.f.a.who = e.a.id))) = true → audL ((x.ws.take (i + 1)).map Wx.a) x.f.a.held x.f.a.who = audL ((x.ws.take i).map Wx.a) x.f.a.held x.f.a.who ++ [e.a.id] := fun h => by rw [htk, audL_snoc, if_pos h]
    focus
      refine xc_seq ?_
      refine xc_seq ?_
      refine xc_region ?_
      refine xo_rd (rd_move rfl) rfl ?_
      refine xo_rd (rd_fieldAddr rfl) rfl ?_
      refine xo_rd (rd_cast (v' := .slice (some ⟨b, o, none⟩) x.ws.length x.xc) (rd_load1 rfl (Cl.own (i := 13) List.mem_cons_self rfl)) (by rw [← hp]; rfl)) rfl ?_
      refine xo_rd (rd_len rfl) rfl ?_
      refine xo_rd (rd_lss rfl rfl) rfl ?_
      refine xo_nil ?_
      refine xq_seq ?_
      refine xc_dec rfl (fun hz1 => ?_) (fun hz1 => (by exfalso; omega))
      refine xc_skip ?_
      refine xq_seq ?_
      refine xc_seq ?_
      refine xc_block ?_
      refine xc_seq ?_
      refine xc_region ?_
      refine xo_rd (rd_fieldAddr rfl) rfl ?_
      refine xo_rd (rd_cast (v' := .slice (some ⟨b, o, none⟩) x.ws.length x.xc) (rd_load1 rfl (Cl.own (i := 13) List.mem_cons_self rfl)) (by rw [← hp]; rfl)) rfl ?_
      refine xo_rd (rd_move rfl) rfl ?_
      refine xo_rd (rd_indexAddr rfl rfl (by omega) (by omega)) rfl ?_
      refine xo_rd (rd_loadA (vs := e.enc) rfl rfl (hci2 _ (by intro z hz; simp [hz]))) rfl ?_
      refine xo_ef rfl (ef_alloc fun r5 => ?_)
      refine xo_ef rfl (ef_storeB [] _ rfl rfl (by first | rfl | assumption) rfl rfl rfl ?_)
      refine xo_nil ?_
      refine xq_seq ?_
      refine xc_seq ?_
      refine xc_region ?_
      refine xo_rd (rd_fieldAddr rfl) rfl ?_
      refine xo_rd (rd_load1 rfl (Cl.o0 rfl)) rfl ?_
      refine xo_rd (rd_move rfl) rfl ?_
      refine xo_split 20 rfl (fun hz2 => ?_) (fun hz2 => ?_)
      refine xo_grd rfl rfl (rd_fieldAddr rfl) rfl ?_
      refine xo_grd rfl rfl (rd_fieldAddr rfl) rfl ?_
      refine xo_grd rfl rfl (rd_load1 rfl (Cl.o1 rfl)) rfl ?_
      refine xo_grd rfl rfl (rd_move rfl) rfl ?_
      refine xo_split 24 rfl (fun hz3 => ?_) (fun hz3 => ?_)
      refine xo_grd rfl rfl (rd_fieldAddr rfl) rfl ?_
      refine xo_grd rfl rfl (rd_fieldAddr rfl) rfl ?_
      refine xo_grd rfl rfl (rd_fieldAddr rfl) rfl ?_
      refine xo_grd rfl rfl (rd_load1 rfl (Cl.o1 rfl)) rfl ?_
      refine xo_grd rfl rfl (rd_convn rfl (by omega) (by omega)) rfl ?_
      refine xo_grd rfl rfl (rd_fieldAddr rfl) rfl ?_
      refine xo_grd rfl rfl (rd_load1 rfl (Cl.o0 rfl)) rfl ?_
      refine xo_grd rfl rfl (rd_eql rfl rfl) rfl ?_
      refine xo_grd rfl rfl (rd_pickt rfl rfl) rfl ?_
      refine xo_grd rfl rfl (rd_not rfl) rfl ?_
      refine xo_rd (rd_pickt rfl rfl) rfl ?_
      refine xo_nil ?_
      refine xq_seq ?_
      refine xc_ndec rfl (fun hz4 => ?_) (fun hz4 => ?_)
      refine xc_region ?_
      refine xo_rd (rd_move rfl) rfl ?_
      refine xo_rd (rd_fieldAddr rfl) rfl ?_
      refine xo_rd (rd_load1 rfl (Cl.o0 rfl)) rfl ?_
      refine xo_ef rfl (ef_buildL (T := 50) (len := 1) (s := 1) (cells := (ints .i64 [e.a.id]).toArray) rfl (by decide) (by decide) (by kernel_rfl) fun r39 => ?_)
      refine xo_ef rfl (ef_appendQS [_, _, _] L lb (news := ints .i64 [e.a.id]) rfl rfl hsl rfl rs_cons rfl rfl (by decide) (by omega) (by omega) fun q2 kk2 lb2 hO2 hk2 => ?_)
      refine xo_rd (rd_assign rfl) rfl ?_
      refine xo_nil ?_
      refine xq_block ?_
      refine xq_seq ?_
      refine xc_region ?_
      refine xo_rd (rd_move rfl) rfl ?_
      refine xo_rd (rd_addn rfl rfl (by omega) (by omega)) rfl ?_
      refine xo_rd (rd_assign rfl) rfl ?_
      refine xo_nil ?_
      rotate_left
      refine xc_skip ?_
      refine xq_block ?_
      refine xq_seq ?_
      refine xc_region ?_
      refine xo_rd (rd_move rfl) rfl ?_
      refine xo_rd (rd_addn rfl rfl (by omega) (by omega)) rfl ?_
      refine xo_rd (rd_assign rfl) rfl ?_
      refine xo_nil ?_
      rotate_left
      refine xo_gskip rfl rfl rfl rfl ?_
      refine xo_gskip rfl rfl rfl rfl ?_
      refine xo_gskip rfl rfl rfl rfl ?_
      refine xo_gskip rfl rfl rfl rfl ?_
      refine xo_gskip rfl rfl rfl rfl ?_
      refine xo_gskip rfl rfl rfl rfl ?_
      refine xo_gskip rfl rfl rfl rfl ?_
      refine xo_gskip rfl rfl rfl rfl ?_
      refine xo_grd rfl rfl (rd_pickf rfl rfl) rfl ?_
      refine xo_grd rfl rfl (rd_not rfl) rfl ?_
      refine xo_rd (rd_pickt rfl rfl) rfl ?_
      refine xo_nil ?_
      refine xq_seq ?_
      refine xc_condt rfl ?_
      refine xc_region ?_
      refine xo_rd (rd_move rfl) rfl ?_
      refine xo_rd (rd_fieldAddr rfl) rfl ?_
      refine xo_rd (rd_load1 rfl (Cl.o0 rfl)) rfl ?_
      refine xo_ef rfl (ef_buildL (T := 50) (len := 1) (s := 1) (cells := (ints .i64 [e.a.id]).toArray) rfl (by decide) (by decide) (by kernel_rfl) fun r39 => ?_)
      refine xo_ef rfl (ef_appendQS [_, _, _] L lb (news := ints .i64 [e.a.id]) rfl rfl hsl rfl rs_cons rfl rfl (by decide) (by omega) (by omega) fun q2 kk2 lb2 hO2 hk2 => ?_)
      refine xo_rd (rd_assign rfl) rfl ?_
      refine xo_nil ?_
      refine xq_block ?_
      refine xq_seq ?_
      refine xc_region ?_
      refine xo_rd (rd_move rfl) rfl ?_
      refine xo_rd (rd_addn rfl rfl (by omega) (by omega)) rfl ?_
      refine xo_rd (rd_assign rfl) rfl ?_
      refine xo_nil ?_
      rotate_left
      refine xo_gskip rfl rfl rfl rfl ?_
      refine xo_gskip rfl rfl rfl rfl ?_
      refine xo_gskip rfl rfl rfl rfl ?_
      refine xo_gskip rfl rfl rfl rfl ?_
      refine xo_gskipU rfl rfl rfl ?_
      refine xo_gskipU rfl rfl rfl ?_
      refine xo_gskipU rfl rfl rfl ?_
      refine xo_gskipU rfl rfl rfl ?_
      refine xo_gskipU rfl rfl rfl ?_
      refine xo_gskipU rfl rfl rfl ?_
      refine xo_gskipU rfl rfl rfl ?_
      refine xo_gskipU rfl rfl rfl ?_
      refine xo_gskip rfl rfl rfl rfl ?_
      refine xo_gskip rfl rfl rfl rfl ?_
      refine xo_rd (rd_pickf rfl rfl) rfl ?_
      refine xo_nil ?_
      refine xq_seq ?_
      refine xc_condf rfl ?_
      refine xc_skip ?_
      refine xq_block ?_
      refine xq_seq ?_
      refine xc_region ?_
      refine xo_rd (rd_move rfl) rfl ?_
      refine xo_rd (rd_addn rfl rfl (by omega) (by omega)) rfl ?_
      refine xo_rd (rd_assign rfl) rfl ?_
      refine xo_nil ?_
      rotate_left
    · have hH := hyes (by rw [hz2, hz3, decide_eq_false hz4]; rfl)
      exact xq_sub (List.sublist_append_right [_, _] _) (xq_roundI ((i + 1, q2, kk2, lb2) : Nat × (Option Addr × Nat × List Blk)) ⟨by dsimp only; omega, by dsimp only; rw [hH, List.length_append, ints_app]; exact hO2⟩ (by dsimp only; omega) rfl (by dsimp only; rw [hH, List.length_append]; exact (by repeat (first | exact keep_nil | refine keep_cons rfl ?_))))
    · have hH := hno (by rw [hz2, hz3, decide_eq_true hz4]; decide)
      exact xq_sub (List.sublist_cons_self _ _) (xq_roundI ((i + 1, q, kk, lb) : Nat × (Option Addr × Nat × List Blk)) ⟨by dsimp only; omega, by dsimp only; rw [hH]; exact hsl⟩ (by dsimp only; omega) rfl (by dsimp only; rw [hH]; exact (by repeat (first | exact keep_nil | refine keep_cons rfl ?_))))
    · have hH := hyes (by rw [hz2, hz3]; rfl)
      exact xq_sub (List.sublist_append_right [_, _] _) (xq_roundI ((i + 1, q2, kk2, lb2) : Nat × (Option Addr × Nat × List Blk)) ⟨by dsimp only; omega, by dsimp only; rw [hH, List.length_append, ints_app]; exact hO2⟩ (by dsimp only; omega) rfl (by dsimp only; rw [hH, List.length_append]; exact (by repeat (first | exact keep_nil | refine keep_cons rfl ?_))))
    · have hH := hno (by rw [hz2, Bool.false_and]; decide)
      exact xq_sub (List.sublist_cons_self _ _) (xq_roundI ((i + 1, q, kk, lb) : Nat × (Option Addr × Nat × List Blk)) ⟨by dsimp only; omega, by dsimp only; rw [hH]; exact hsl⟩ (by dsimp only; omega) rfl (by dsimp only; rw [hH]; exact (by repeat (first | exact keep_nil | refine keep_cons rfl ?_))))
  · rw [List.take_of_length_le (by omega)] at hsl
    focus
      refine xc_seq ?_
      refine xc_seq ?_
      refine xc_region ?_
      refine xo_rd (rd_move rfl) rfl ?_
      refine xo_rd (rd_fieldAddr rfl) rfl ?_
      refine xo_rd (rd_load1 rfl (Cl.o0 rfl)) rfl ?_
      refine xo_rd (rd_len rfl) rfl ?_
      refine xo_rd (rd_lss rfl rfl) rfl ?_
      refine xo_nil ?_
      refine xq_seq ?_
      refine xc_dec rfl (fun h1 => (by exfalso; omega)) (fun h1 => ?_)
      refine xc_exit ?_
      refine xq_then_exit ?_
      refine xq_then_exit ?_
      refine xq_block_hit ?_
      refine xq_seq ?_
      refine xc_seq ?_
      refine xc_region ?_
      refine xo_rd (rd_move rfl) rfl ?_
      refine xo_rd (rd_assign rfl) rfl ?_
      refine xo_nil ?_
      refine xq_seq ?_
      refine xc_ret ?_
    exact xq_sub (List.sublist_cons_self _ _) (xq_ret1 (.inl rfl) Tryz.results52 rfl ⟨q, kk, lb, by rw [List.take_of_length_le (by omega)]; rfl, hsl, rfl⟩)
def vieL (ws : List Wa) (y : Int) : List Int := (ws.filter fun w => decide (y ∈ w.cs)).map Wa.id
theorem vieL_snoc (ws : List Wa) (w : Wa) (y : Int) : vieL (ws ++ [w]) y = vieL ws y ++ if y ∈ w.cs then [w.id] else [] := by
  unfold vieL
  rw [List.filter_append, List.map_append]
  congr 1
  by_cases h : y ∈ w.cs
  · rw [if_pos h, List.filter_cons, if_pos (decide_eq_true h)]; rfl
  · rw [if_neg h, List.filter_cons, if_neg (by simpa using h)]; rfl
theorem vieL_le (ws : List Wa) (y : Int) : (vieL ws y).length ≤ ws.length := by
  unfold vieL; rw [List.length_map]; exact List.length_filter_le _ _
set_option maxHeartbeats 800000 in
theorem xf_r2Viewers {W : World} {L : List Blk} (x : Rr) (hx : x.At W L) (y : Int) : XF Tryz.prog W 53 #[.agg x.enc.toArray, .int .i64 y] L (fun v L' => ∃ q kk lb g, v = .slice q (vieL x.ra.ws y).length kk ∧ SlQ 1 3 (.slice q (vieL x.ra.ws y).length kk) (vieL x.ra.ws y).length (ints .i64 (vieL x.ra.ws y)) lb ∧ L' = lb ++ (g ++ L)) := by
  have hxl := hx.xl
  refine xf_enter (args := [_, _]) Tryz.func53 rfl Tryz.ntmps53 rfl ?_
  focus
    refine xc_seq ?_
    refine xc_region ?_
    refine xo_ef rfl (ef_box rfl fun r2 => ?_)
    refine xo_rd (rd_assign rfl) rfl ?_
    refine xo_nil ?_
    refine xq_seq ?_
    refine xc_seq ?_
    refine xc_region ?_
    refine xo_rd (rd_assign rfl) rfl ?_
    refine xo_nil ?_
    refine xq_seq ?_
    refine xc_seq ?_
    refine xc_seq ?_
    refine xc_region ?_
    refine xo_rd (rd_assign rfl) rfl ?_
    refine xo_nil ?_
    refine xq_seq ?_
    refine xc_block ?_
  refine xc_loopI (ι := Nat × (Option Addr × Nat × List Blk × List Blk)) (fun s => s.1 ≤ x.ws.length ∧ SlQ 1 3 (.slice s.2.1 (vieL ((x.ws.take s.1).map Wx.a) y).length s.2.2.1) (vieL ((x.ws.take s.1).map Wx.a) y).length (ints .i64 (vieL ((x.ws.take s.1).map Wx.a) y)) s.2.2.2.1) (fun s => x.ws.length - s.1) (fun s => (r2, Obj.cells x.enc.toArray 45 (0, 0)) :: (s.2.2.2.1 ++ (s.2.2.2.2 ++ L))) (fun s => [(1, .int .i64 y), (2, .pointer (some ⟨r2, 0, none⟩)), (5, .slice s.2.1 (vieL ((x.ws.take s.1).map Wx.a) y).length s.2.2.1), (6, .int .i64 s.1)]) (0, none, 0, [], []) ⟨Nat.zero_le _, by dsimp only; rw [List.take_zero]; exact SlQ.nil⟩ rfl (by dsimp only; rw [List.take_zero]; exact (by repeat (first | exact keep_nil | refine keep_cons rfl ?_))) ?_
  rintro ⟨i, q, kk, lb, g⟩ ⟨hi, hsl⟩
  dsimp only at hi hsl ⊢
  by_cases hin : i < x.ws.length
  · obtain ⟨b, o, hp, hc⟩ := hx.xs.rows Wx.len (by decide) (by omega)
    have hci := hc i hin
    obtain ⟨e, hee⟩ : ∃ e, x.ws[i] = e := ⟨_, rfl⟩
    rw [hee] at hci
    have hem : e ∈ x.ws := hee ▸ List.getElem_mem hin
    have hci2 : ∀ L', (∀ z, z ∈ L → z ∈ L') → ∀ j u, e.enc[j]? = some u → Cl W L' b (o + (i : Int).toNat * 3 + j) u := fun L' h j u hj => (hci j u hj).mono h
    have htk : (x.ws.take (i + 1)).map Wx.a = (x.ws.take i).map Wx.a ++ [e.a] := by rw [List.take_add_one, List.getElem?_eq_getElem hin, hee, List.map_append]; rfl
    have hll := vieL_le ((x.ws.take i).map Wx.a) y
    rw [List.length_map, List.length_take] at hll
    have hwt := fun L' (h : ∀ z, z ∈ L → z ∈ L') => xf_rwithout (W := W) (L := L') e.p e.a.cs.length e.c e.a.cs rfl ((hx.w e hem).mono h) (by have := hx.cl e hem; omega) y
    by_cases hy : y ∈ e.a.cs
    · have hlt := (filter_lt (l := e.a.cs) (c := y)).2 hy
      have hH : vieL ((x.ws.take (i + 1)).map Wx.a) y = vieL ((x.ws.take i).map Wx.a) y ++ [e.a.id] := by rw [htk, vieL_snoc, if_pos hy]
      focus
        refine xc_seq ?_
        refine xc_seq ?_
        refine xc_region ?_
        refine xo_rd (rd_move rfl) rfl ?_
        refine xo_rd (rd_fieldAddr rfl) rfl ?_
        refine xo_rd (rd_cast (v' := .slice (some ⟨b, o, none⟩) x.ws.length x.xc) (rd_load1 rfl (Cl.own (i := 13) List.mem_cons_self rfl)) (by rw [← hp]; rfl)) rfl ?_
        refine xo_rd (rd_len rfl) rfl ?_
        refine xo_rd (rd_lss rfl rfl) rfl ?_
        refine xo_nil ?_
        refine xq_seq ?_
        refine xc_dec rfl (fun h1 => ?_) (fun h1 => (by exfalso; omega))
        refine xc_skip ?_
        refine xq_seq ?_
        refine xc_seq ?_
        refine xc_block ?_
        refine xc_seq ?_
        refine xc_region ?_
        refine xo_rd (rd_fieldAddr rfl) rfl ?_
        refine xo_rd (rd_cast (v' := .slice (some ⟨b, o, none⟩) x.ws.length x.xc) (rd_load1 rfl (Cl.own (i := 13) List.mem_cons_self rfl)) (by rw [← hp]; rfl)) rfl ?_
        refine xo_rd (rd_move rfl) rfl ?_
        refine xo_rd (rd_indexAddr rfl rfl (by omega) (by omega)) rfl ?_
        refine xo_rd (rd_fieldAddr rfl) rfl ?_
        refine xo_rd (rd_load1 rfl (hci2 _ (by intro z hz; simp [hz]) 2 _ rfl)) rfl ?_
        refine xo_rd (rd_assign rfl) rfl ?_
        refine xo_nil ?_
        refine xq_seq ?_
        refine xc_seq ?_
        refine xc_region ?_
        refine xo_rd (rd_move rfl) rfl ?_
        refine xo_rd (rd_move rfl) rfl ?_
        refine xo_ef rfl (ef_call rfl (XF.mono (hwt _ (by intro z hz; simp [hz])) ?_))
        rintro v L' ⟨q1, k1, l1, rfl, hO1, rfl⟩
        refine xo_seg [_] l1 _ ?_
        refine xo_rd (rd_len rfl) rfl ?_
        refine xo_rd (rd_move rfl) rfl ?_
        refine xo_rd (rd_len rfl) rfl ?_
        refine xo_rd (rd_lss rfl rfl) rfl ?_
        refine xo_nil ?_
        refine xq_seq ?_
        refine xc_dec rfl (fun h2 => ?_) (fun h2 => (by exfalso; omega))
        refine xc_region ?_
        refine xo_rd (rd_move rfl) rfl ?_
        refine xo_rd (rd_fieldAddr rfl) rfl ?_
        refine xo_rd (rd_cast (v' := .slice (some ⟨b, o, none⟩) x.ws.length x.xc) (rd_load1 rfl (Cl.own (i := 13) List.mem_cons_self rfl)) (by rw [← hp]; rfl)) rfl ?_
        refine xo_rd (rd_move rfl) rfl ?_
        refine xo_rd (rd_indexAddr rfl rfl (by omega) (by omega)) rfl ?_
        refine xo_rd (rd_fieldAddr rfl) rfl ?_
        refine xo_rd (rd_load1 rfl (hci2 _ (by intro z hz; simp [hz]) 0 _ rfl)) rfl ?_
        refine xo_ef rfl (ef_buildL (T := 50) (len := 1) (s := 1) (cells := (ints .i64 [e.a.id]).toArray) rfl (by decide) (by decide) (by kernel_rfl) fun r39 => ?_)
        refine xo_ef rfl (ef_appendQS (_ :: _ :: l1) (g ++ L) lb (news := ints .i64 [e.a.id]) rfl rfl hsl rfl rs_cons rfl rfl (by decide) (by omega) (by omega) fun q2 kk2 lb2 hO2 hk2 => ?_)
        refine xo_rd (rd_assign rfl) rfl ?_
        refine xo_nil ?_
        refine xq_block ?_
        refine xq_seq ?_
        refine xc_region ?_
        refine xo_rd (rd_move rfl) rfl ?_
        refine xo_rd (rd_addn rfl rfl (by omega) (by omega)) rfl ?_
        refine xo_rd (rd_assign rfl) rfl ?_
        refine xo_nil ?_
      exact xq_sub (((List.sublist_append_right l1 _).cons_cons _).trans (List.sublist_cons_self _ _)) (xq_roundI ((i + 1, q2, kk2, lb2, g) : Nat × (Option Addr × Nat × List Blk × List Blk)) ⟨by dsimp only; omega, by dsimp only; rw [hH, List.length_append, ints_app]; exact hO2⟩ (by dsimp only; omega) rfl (by dsimp only; rw [hH, List.length_append]; exact (by repeat (first | exact keep_nil | refine keep_cons rfl ?_))))
    · have hlt : ¬ (e.a.cs.filter fun x => !decide (x = y)).length < e.a.cs.length := fun h => hy (filter_lt.1 h)
      have hH : vieL ((x.ws.take (i + 1)).map Wx.a) y = vieL ((x.ws.take i).map Wx.a) y := by rw [htk, vieL_snoc, if_neg hy, List.append_nil]
      focus
        refine xc_seq ?_
        refine xc_seq ?_
        refine xc_region ?_
        refine xo_rd (rd_move rfl) rfl ?_
        refine xo_rd (rd_fieldAddr rfl) rfl ?_
        refine xo_rd (rd_cast (v' := .slice (some ⟨b, o, none⟩) x.ws.length x.xc) (rd_load1 rfl (Cl.own (i := 13) List.mem_cons_self rfl)) (by rw [← hp]; rfl)) rfl ?_
        refine xo_rd (rd_len rfl) rfl ?_
        refine xo_rd (rd_lss rfl rfl) rfl ?_
        refine xo_nil ?_
        refine xq_seq ?_
        refine xc_dec rfl (fun h1 => ?_) (fun h1 => (by exfalso; omega))
        refine xc_skip ?_
        refine xq_seq ?_
        refine xc_seq ?_
        refine xc_block ?_
        refine xc_seq ?_
        refine xc_region ?_
        refine xo_rd (rd_fieldAddr rfl) rfl ?_
        refine xo_rd (rd_cast (v' := .slice (some ⟨b, o, none⟩) x.ws.length x.xc) (rd_load1 rfl (Cl.own (i := 13) List.mem_cons_self rfl)) (by rw [← hp]; rfl)) rfl ?_
        refine xo_rd (rd_move rfl) rfl ?_
        refine xo_rd (rd_indexAddr rfl rfl (by omega) (by omega)) rfl ?_
        refine xo_rd (rd_fieldAddr rfl) rfl ?_
        refine xo_rd (rd_load1 rfl (hci2 _ (by intro z hz; simp [hz]) 2 _ rfl)) rfl ?_
        refine xo_rd (rd_assign rfl) rfl ?_
        refine xo_nil ?_
        refine xq_seq ?_
        refine xc_seq ?_
        refine xc_region ?_
        refine xo_rd (rd_move rfl) rfl ?_
        refine xo_rd (rd_move rfl) rfl ?_
        refine xo_ef rfl (ef_call rfl (XF.mono (hwt _ (by intro z hz; simp [hz])) ?_))
        rintro v L' ⟨q1, k1, l1, rfl, hO1, rfl⟩
        refine xo_seg [_] l1 _ ?_
        refine xo_rd (rd_len rfl) rfl ?_
        refine xo_rd (rd_move rfl) rfl ?_
        refine xo_rd (rd_len rfl) rfl ?_
        refine xo_rd (rd_lss rfl rfl) rfl ?_
        refine xo_nil ?_
        refine xq_seq ?_
        refine xc_dec rfl (fun h2 => (by exfalso; omega)) (fun h2 => ?_)
        refine xc_skip ?_
        refine xq_block ?_
        refine xq_seq ?_
        refine xc_region ?_
        refine xo_rd (rd_move rfl) rfl ?_
        refine xo_rd (rd_addn rfl rfl (by omega) (by omega)) rfl ?_
        refine xo_rd (rd_assign rfl) rfl ?_
        refine xo_nil ?_
      exact xq_sub ((List.sublist_append_right l1 _).cons_cons _) (xq_roundI ((i + 1, q, kk, lb, g) : Nat × (Option Addr × Nat × List Blk × List Blk)) ⟨by dsimp only; omega, by dsimp only; rw [hH]; exact hsl⟩ (by dsimp only; omega) rfl (by dsimp only; rw [hH]; exact (by repeat (first | exact keep_nil | refine keep_cons rfl ?_))))
  · rw [List.take_of_length_le (by omega)] at hsl
    focus
      refine xc_seq ?_
      refine xc_seq ?_
      refine xc_region ?_
      refine xo_rd (rd_move rfl) rfl ?_
      refine xo_rd (rd_fieldAddr rfl) rfl ?_
      refine xo_rd (rd_load1 rfl (Cl.o0 rfl)) rfl ?_
      refine xo_rd (rd_len rfl) rfl ?_
      refine xo_rd (rd_lss rfl rfl) rfl ?_
      refine xo_nil ?_
      refine xq_seq ?_
      refine xc_dec rfl (fun h1 => (by exfalso; omega)) (fun h1 => ?_)
      refine xc_exit ?_
      refine xq_then_exit ?_
      refine xq_then_exit ?_
      refine xq_block_hit ?_
      refine xq_seq ?_
      refine xc_seq ?_
      refine xc_region ?_
      refine xo_rd (rd_move rfl) rfl ?_
      refine xo_rd (rd_assign rfl) rfl ?_
      refine xo_nil ?_
      refine xq_seq ?_
      refine xc_ret ?_
    exact xq_sub (List.sublist_cons_self _ _) (xq_ret1 (.inl rfl) Tryz.results53 rfl ⟨q, kk, lb, g, by rw [List.take_of_length_le (by omega)]; rfl, hsl, rfl⟩)
end Go.Proofs.YtmdeajdaeihniaaGreat.X
