/-
  Texts of my own, put together: walks and laws for this seat. No condition.
-/
import Derived.Test.YtoolgphkfnkajaaM7
/-
  Chapter 23: a call of both requesters, of few sources: a walk of my own.
-/
namespace Go.Proofs.Ytoolgphkfnkajaa.X
open Go Go.RowKit
set_option linter.unusedVariables false
set_option linter.unusedSimpArgs false
def doL (k w : Int) (l : List Sr) (src now : Int) : List Sr := if k = 3 ∨ k = 4 then tickL w l now else if k = 5 then ansA [src, src + 1] l else if k = 6 then dropL l src else askL w l src now
/-- The numbers of a row, overwritten. -/
structure SpS where
  i : Nat
  xs : List Int
  l : List Blk
theorem perm_e1 (w : Int) (r mb : Nat) (mo : Obj) (a b c d : Blk) (lb N L : List Blk) : (a :: (lb ++ (N ++ (b :: c :: d :: rqB w r mb mo L)))).Perm (rqB w r mb mo (a :: b :: c :: d :: (lb ++ (N ++ L)))) := by unfold rqB; exact (by classical exact List.perm_iff_count.2 fun a => by simp only [List.append_eq, List.count_append, List.count_cons, List.count_nil, List.cons_append, List.nil_append, List.flatMap_append, List.flatMap_cons, List.flatMap_nil, List.append_nil]; omega)
theorem perm_e2 (w : Int) (r mb : Nat) (mo : Obj) (a b c d : Blk) (lb N L : List Blk) : (rqB w r mb mo (a :: b :: c :: d :: (lb ++ (N ++ L)))).Perm (b :: a :: c :: d :: (lb ++ rqB w r mb mo (N ++ L))) := by unfold rqB; exact (by classical exact List.perm_iff_count.2 fun a => by simp only [List.append_eq, List.count_append, List.count_cons, List.count_nil, List.cons_append, List.nil_append, List.flatMap_append, List.flatMap_cons, List.flatMap_nil, List.append_nil]; omega)
theorem perm_e3 (w : Int) (r mb : Nat) (mo : Obj) (b c d : Blk) (N L : List Blk) : (N ++ (b :: c :: d :: rqB w r mb mo L)).Perm (b :: c :: d :: rqB w r mb mo (N ++ L)) := by unfold rqB; exact (by classical exact List.perm_iff_count.2 fun a => by simp only [List.append_eq, List.count_append, List.count_cons, List.count_nil, List.cons_append, List.nil_append, List.flatMap_append, List.flatMap_cons, List.flatMap_nil, List.append_nil]; omega)
theorem perm_e4 (w : Int) (r mb : Nat) (mo : Obj) (a b c d : Blk) (N L : List Blk) : (a :: (N ++ (b :: c :: d :: rqB w r mb mo L))).Perm (a :: b :: c :: d :: rqB w r mb mo (N ++ L)) := by unfold rqB; exact (by classical exact List.perm_iff_count.2 fun a => by simp only [List.append_eq, List.count_append, List.count_cons, List.count_nil, List.cons_append, List.nil_append, List.flatMap_append, List.flatMap_cons, List.flatMap_nil, List.append_nil]; omega)
theorem XF.into {W : World} {f : FuncId} {args : Array Value} {w : Int} {r mb : Nat} {mo : Obj} (A L : List Blk) {φ : Value → Rz → List Blk → Prop} (h : XF Try.prog W f args (A ++ rqB w r mb mo L) (fun v L' => ∃ y N, φ v y N ∧ L' = N ++ (A ++ rqB w r mb mo L))) :
    XF Try.prog W f args (A ++ rqB w r mb mo L) (fun v L' => ∃ y N, φ v y N ∧ L' = A ++ rqB w r mb mo (N ++ L)) :=
  h.mapK fun v L' ⟨y, N, hv, hL⟩ => ⟨_, hL ▸ ((List.perm_append_comm_assoc N A _).trans ((rqB_front w r mb mo N L).append_left A)), y, N, hv, rfl⟩
theorem ask_A {W : World} {L : List Blk} (A : List Blk) (w : Int) (r mb : Nat) (mo : Obj) (l : List Sr) (hx : RqOk w mo l) (id now : Int) (hid : 0 ≤ id ∧ id ≤ 4294967295) (hn : 0 ≤ now ∧ now ≤ 18446744073709551615) (hs : (getS l id).sent < big) (h12 : (askL w l id now).length ≤ 12) (b : Bool) (hb : mayB w (getS l id) now = b) :
    XF Try.prog W 10 #[.pointer (some ⟨r, 0, none⟩), .int .u32 id, .int .u64 now] (A ++ rqB w r mb mo L) (fun v L' => v = .bool b ∧ ∃ mo', RqOk w mo' (askL w l id now) ∧ L' = A ++ rqB w r mb mo' L) :=
  ((xf_Ask w r mb mo l hx id now hid hn hs h12 b hb).perm (rqB_front w r mb mo A L)).mapK fun v L' ⟨hv, mo', hok, hL⟩ => ⟨_, hL ▸ (rqB_front w r mb mo' A L).symm, hv, mo', hok, rfl⟩
theorem drop_A {W : World} {L : List Blk} (A : List Blk) (w : Int) (r mb : Nat) (mo : Obj) (l : List Sr) (hx : RqOk w mo l) (q : Nat) (a : Int) (hq : (q, Obj.cells (ints .u32 [a, a]).toArray 30 (0, 0)) ∈ A) :
    XF Try.prog W 12 #[.pointer (some ⟨r, 0, none⟩), .slice (some ⟨q, 0, none⟩) 2 2] (A ++ rqB w r mb mo L) (fun v L' => v = .tuple #[] ∧ ∃ mo', RqOk w mo' (dropL l a) ∧ L' = A ++ rqB w r mb mo' L) :=
  ((xf_Drop w r mb mo l hx q a (List.mem_append_left _ hq)).perm (rqB_front w r mb mo A L)).mapK fun v L' ⟨hv, mo', hok, hL⟩ => ⟨_, hL ▸ (rqB_front w r mb mo' A L).symm, hv, mo', hok, rfl⟩
theorem ans_A {W : World} {L : List Blk} (A : List Blk) (w : Int) (r mb : Nat) (mo : Obj) (l : List Sr) (hx : RqOk w mo l) (q : Nat) (a b : Int) (hq : (q, Obj.cells (ints .u32 [a, b]).toArray 30 (0, 0)) ∈ A) :
    XF Try.prog W 9 #[.pointer (some ⟨r, 0, none⟩), .slice (some ⟨q, 0, none⟩) 2 2] (A ++ rqB w r mb mo L) (fun v L' => v = .tuple #[] ∧ ∃ mo', RqOk w mo' (ansA [a, b] l) ∧ L' = A ++ rqB w r mb mo' L) := by
  have hr : ∀ mo', Rs W (rqB w r mb mo' (A ++ L)) (some ⟨q, 0, none⟩) (ints .u32 [a, b]) := fun mo' => Rs.fresh (vs := ints .u32 [a, b]) (T := 30) (fr := (0, 0)) (List.mem_cons_of_mem _ (List.mem_cons_of_mem _ (List.mem_append_left _ hq)))
  exact ((xf_Answered w r mb mo l hx (some ⟨q, 0, none⟩) 2 2 [a, b] rfl (hr mo) hr (by decide)).perm (rqB_front w r mb mo A L)).mapK fun v L' ⟨hv, mo', hok, hL⟩ => ⟨_, hL ▸ (rqB_front w r mb mo' A L).symm, hv, mo', hok, rfl⟩
set_option maxHeartbeats 6400000 in
theorem xf_does {W : World} {L : List Blk} (w : Int) (r mb : Nat) (mo : Obj) (l : List Sr) (hx : RqOk w mo l) (L0 : List Blk) (hs : ∀ z, z ∈ L0 → z ∈ L) (x : Rz) (hat : x.At W L0) (hxs : x.s = l) (hxw : x.w = w) (a : Ac) (hsrc : 0 ≤ a.src ∧ a.src ≤ 1000) (now k : Int) (hn : 0 ≤ now ∧ now ≤ 18446744073709551615) (hk : (a.d.tmod 7 + 7) % 7 = k) (h12 : (askL w l a.src now).length ≤ 12) (hse : ∀ s, s ∈ l → s.sent < big) (hal : ∀ u, u ∈ x.l → u.ask.length < 900) :
    XF Try.prog W 24 #[.pointer (some ⟨r, 0, none⟩), .agg x.enc.toArray, .agg a.enc.toArray, .int .u64 now] (rqB w r mb mo L) (fun v L' => ∃ y N mo', v = .tuple #[.agg (Rz.enc y).toArray, .bool true] ∧ y.w = w ∧ y.s = doL k w l a.src now ∧ y.At W (N ++ L0) ∧ RqOk w mo' (doL k w l a.src now) ∧ L' = rqB w r mb mo' (N ++ L)) := by
  have hpk := fun L' => xf_pick (W := W) (L := L') a.d 7 (by decide) (by decide)
  rw [hk] at hpk
  have hk9 : 0 ≤ k ∧ k < 7 := by omega
  have hso : (x.s.map Sr.id).Pairwise (· < ·) := hxs ▸ hx.so
  have hll : x.l.length ≤ 12 := by
    have := hx.sm
    rw [← hxs] at this
    unfold Rz.s at this
    rwa [List.length_map] at this
  have hla : ∀ s, s ∈ x.s → 0 ≤ s.last := fun s h => (hx.la s (hxs ▸ h)).1
  have hget := (hx.get a.src (by omega)).2.1
  have hgs : (getS l a.src).sent < big := by
    cases hf : srF l a.src with
    | none => rw [getS_none hf]; show (0 : Int) < big; decide
    | some s => rw [getS_some hf]; exact hse s (srF_id hf).1
  have hLq : ∀ z, z ∈ L0 → z ∈ rqB w r mb mo L := fun z hz => List.mem_cons_of_mem _ (List.mem_cons_of_mem _ (hs z hz))
  refine xf_enter (args := [_, _, _, _]) Try.func24 rfl Try.ntmps24 rfl ?_
  have hcase : (k = 3 ∨ k = 4) ∨ k = 5 ∨ k = 6 ∨ (k = 0 ∨ k = 1 ∨ k = 2) := by omega
  rcases hcase with hc | rfl | rfl | hc
  · have hd : doL k w l a.src now = tickL w l now := by unfold doL; rw [if_pos hc]
    rw [hd]
    have hrt := fun L' (h : ∀ z, z ∈ rqB w r mb mo L → z ∈ L') => xr_Tick (W := W) (L := L') L0 (fun z hz => h z (hLq z hz)) x hat now hso (by omega) hal hla hn
    rw [hxs, hxw] at hrt
    have hdl := tickO_le w now l
    have hsm := hx.sm
    have htk := fun L => xf_Tick (W := W) (L := L) w r mb mo l hx now hn hse
    generalize tickO w l now = ds at *
    rcases hc with rfl | rfl
    · skip
      focus
        refine xc_seq ?_
        refine xc_region ?_
        refine xo_ef rfl (ef_box rfl fun r5 => ?_)
        refine xo_ef rfl (ef_box rfl fun r6 => ?_)
        refine xo_ef rfl (ef_alloc fun r8 => ?_)
        refine xo_rd (rd_assign rfl) rfl ?_
        refine xo_nil ?_
        refine xq_seq ?_
        refine xc_seq ?_
        refine xc_seq ?_
        refine xc_region ?_
        refine xo_rd (rd_fieldAddr rfl) rfl ?_
        refine xo_rd (rd_load1 rfl (Cl.o1 rfl)) rfl ?_
        refine xo_ef rfl (ef_call rfl (XF.mono (hpk _) ?_))
        rintro v L' ⟨rfl, rfl⟩
        refine xo_nil ?_
        refine xq_seq ?_
        refine xc_block ?_
        refine xc_seq ?_
        refine xc_seq ?_
        refine xc_region ?_
        refine xo_rd (rd_eql rfl rfl) rfl ?_
        refine xo_rd (rd_assign rfl) rfl ?_
        refine xo_nil ?_
        refine xq_seq ?_
        refine xc_condt rfl ?_
        refine xc_skip ?_
        refine xq_seq ?_
        refine xc_condt rfl ?_
        refine xc_seq ?_
        refine xc_region ?_
        refine xo_rd (rd_loadB rfl Kn.o2 (by rfl)) rfl ?_
        refine xo_rd (rd_move rfl) rfl ?_
        refine xo_ef rfl (ef_call rfl (XF.mono (hrt _ (by intro z hz; simp [hz])) ?_))
        rintro v L' ⟨y, N, q, kq, lb, rfl, hOq, hyw, hys, hyat, rfl⟩
        refine xo_rd (rd_move rfl) rfl ?_
        refine xo_rd (rd_extract rfl rfl) rfl ?_
        refine xo_rd (rd_extract rfl rfl) rfl ?_
        refine xo_ef rfl (ef_alloc fun r10 => ?_)
        refine xo_ef rfl (ef_storeB [] _ rfl rfl (by first | rfl | assumption) rfl rfl rfl ?_)
        refine xo_rd (rd_assign rfl) rfl ?_
        refine xo_nil ?_
        refine xq_seq ?_
      refine xc_perm (L' := rqB w r mb mo ((r10, Obj.cells y.enc.toArray 57 (0, 0)) :: (r8, Obj.cells (rzE 0 none 0 0).toArray 57 (0, 0)) :: (r6, Obj.cells a.enc.toArray 33 (0, 0)) :: (r5, Obj.cells x.enc.toArray 57 (0, 0)) :: (lb ++ (N ++ L)))) (perm_e1 w r mb mo _ _ _ _ lb N L) ?_
      obtain ⟨G, hG⟩ : ∃ G, (r10, Obj.cells y.enc.toArray 57 (0, 0)) :: (r8, Obj.cells (rzE 0 none 0 0).toArray 57 (0, 0)) :: (r6, Obj.cells a.enc.toArray 33 (0, 0)) :: (r5, Obj.cells x.enc.toArray 57 (0, 0)) :: (lb ++ (N ++ L)) = G := ⟨_, rfl⟩
      rw [hG]
      have hq2 : ∀ L' mo2, (∀ z, z ∈ rqB w r mb mo2 G → z ∈ L') → Rs W L' q (ints .u32 ds) := fun L' mo2 h => hOq.rs fun z hz => h z (List.mem_cons_of_mem _ (List.mem_cons_of_mem _ (by rw [← hG]; exact List.mem_cons_of_mem _ (List.mem_cons_of_mem _ (List.mem_cons_of_mem _ (List.mem_cons_of_mem _ (List.mem_append_left _ hz)))))))
      focus
        refine xc_seq ?_
        refine xc_region ?_
        refine xo_rd (rd_move rfl) rfl ?_
        refine xo_rd (rd_move rfl) rfl ?_
        refine xo_ef rfl (ef_call rfl (XF.mono (htk G) ?_))
        rintro v L' ⟨p, kp, lo, mo2, rfl, hO, hok, rfl⟩
        refine xo_rd (rd_assign rfl) rfl ?_
        refine xo_nil ?_
        refine xq_seq ?_
        refine xc_seq ?_
        refine xc_region ?_
        refine xo_rd (rd_move rfl) rfl ?_
        refine xo_rd (rd_move rfl) rfl ?_
        refine xo_ef rfl (ef_call rfl (XF.mono (xf_sameX p q ds.length ds.length kp kq ds ds rfl rfl (hO.rs (by intro z hz; simp [hz])) (hq2 _ mo2 (by intro z hz; simp [hz])) (by omega) rfl) ?_))
        rintro v L' ⟨rfl, rfl⟩
        refine xo_rd (rd_assign rfl) rfl ?_
        refine xo_nil ?_
        refine xq_seq ?_
        refine xc_seq ?_
        refine xc_seq ?_
        refine xc_region ?_
        refine xo_rd (rd_assign rfl) rfl ?_
        refine xo_nil ?_
        refine xq_seq ?_
        refine xc_block ?_
      refine xc_loopI (ι := SpS) (fun s => s.i ≤ ds.length ∧ s.xs.length = ds.length ∧ SlQ 1 30 (.slice p ds.length kp) ds.length (ints .u32 s.xs) s.l) (fun s => ds.length - s.i) (fun s => s.l ++ rqB w r mb mo2 G) (fun s => [(8, .pointer (some ⟨r8, 0, none⟩)), (10, .pointer (some ⟨r10, 0, none⟩)), (12, .slice p ds.length kp), (13, .bool true), (14, .int .i64 s.i)]) ⟨0, ds, lo⟩ ⟨Nat.zero_le _, rfl, hO⟩ rfl (by repeat (first | exact keep_nil | refine keep_cons rfl ?_)) ?_
      rintro ⟨i, xs, l4⟩ ⟨hi, hxl, hO4⟩
      dsimp only at hi hxl hO4 ⊢
      by_cases hin : i < ds.length
      · obtain ⟨b, o, hpb, hcb⟩ := (hO4.rsl (W := W) (R := rqB w r mb mo2 G)).int (i := i) (by omega)
        subst hpb
        focus
          refine xc_seq ?_
          refine xc_seq ?_
          refine xc_region ?_
          refine xo_rd (rd_move rfl) rfl ?_
          refine xo_rd (rd_move rfl) rfl ?_
          refine xo_rd (rd_len rfl) rfl ?_
          refine xo_rd (rd_lss rfl rfl) rfl ?_
          refine xo_nil ?_
          refine xq_seq ?_
          refine xc_dec rfl (fun hz1 => ?_) (fun hz1 => (by exfalso; omega))
          refine xc_skip ?_
          refine xq_seq ?_
          refine xc_seq ?_
          refine xc_block ?_
          refine xc_region ?_
          refine xo_rd (rd_move rfl) rfl ?_
          refine xo_rd (rd_move rfl) rfl ?_
          refine xo_rd (rd_indexAddr rfl rfl (by omega) (by omega)) rfl ?_
          refine xo_ef rfl (ef_storeQ1 [] (rqB w r mb mo2 G) i (v := .int .u32 99) hO4 rfl (by omega) rfl rfl rfl (by omega) rfl fun l5 hO5 => ?_)
          refine xo_nil ?_
          refine xq_block ?_
          refine xq_seq ?_
          refine xc_region ?_
          refine xo_rd (rd_move rfl) rfl ?_
          refine xo_rd (rd_addn rfl rfl (by omega) (by omega)) rfl ?_
          refine xo_rd (rd_assign rfl) rfl ?_
          refine xo_nil ?_
        exact xq_roundI (⟨i + 1, xs.set i 99, l5⟩ : SpS) ⟨by dsimp only; omega, by dsimp only; rw [List.length_set]; exact hxl, by dsimp only; rw [ints_set]; exact hO5⟩ (by dsimp only; omega) rfl (by repeat (first | exact keep_nil | refine keep_cons rfl ?_))
      · skip
        focus
          refine xc_seq ?_
          refine xc_seq ?_
          refine xc_region ?_
          refine xo_rd (rd_move rfl) rfl ?_
          refine xo_rd (rd_move rfl) rfl ?_
          refine xo_rd (rd_len rfl) rfl ?_
          refine xo_rd (rd_lss rfl rfl) rfl ?_
          refine xo_nil ?_
          refine xq_seq ?_
          refine xc_dec rfl (fun h1 => (by exfalso; omega)) (fun h1 => ?_)
          refine xc_exit ?_
          refine xq_then_exit ?_
          refine xq_then_exit ?_
          refine xq_block_hit ?_
          refine xq_seq ?_
        refine xc_sub (List.sublist_append_right l4 _) ?_
        subst hG
        refine xc_perm (L' := (r8, Obj.cells (rzE 0 none 0 0).toArray 57 (0, 0)) :: (r10, Obj.cells y.enc.toArray 57 (0, 0)) :: (r6, Obj.cells a.enc.toArray 33 (0, 0)) :: (r5, Obj.cells x.enc.toArray 57 (0, 0)) :: (lb ++ rqB w r mb mo2 (N ++ L))) (perm_e2 w r mb mo2 _ _ _ _ lb N L) ?_
        focus
          refine xc_seq ?_
          refine xc_region ?_
          refine xo_rd (rd_loadA (vs := y.enc) rfl rfl (cl_sub (b := r10) (vs := y.enc) (T := 57) (fr := (0, 0)) 0 (List.mem_cons_of_mem _ List.mem_cons_self) rfl)) rfl ?_
          refine xo_rd (rd_move rfl) rfl ?_
          refine xo_ef rfl (ef_storeB [] _ rfl rfl (by first | rfl | assumption) rfl rfl rfl ?_)
          refine xo_rd (rd_assign rfl) rfl ?_
          refine xo_nil ?_
          refine xq_seq ?_
          refine xc_ret ?_
          refine xq_block_ret ?_
          refine xq_then_ret ?_
        exact xq_retB2 (.inl rfl) Try.results24 rfl rfl Kn.o0 rfl ((List.sublist_append_right lb _).trans (List.sublist_append_right [_, _, _, _] _)) ⟨y, N, mo2, rfl, hyw, hys, hyat, hok, rfl⟩
    · skip
      focus
        refine xc_seq ?_
        refine xc_region ?_
        refine xo_ef rfl (ef_box rfl fun r5 => ?_)
        refine xo_ef rfl (ef_box rfl fun r6 => ?_)
        refine xo_ef rfl (ef_alloc fun r8 => ?_)
        refine xo_rd (rd_assign rfl) rfl ?_
        refine xo_nil ?_
        refine xq_seq ?_
        refine xc_seq ?_
        refine xc_seq ?_
        refine xc_region ?_
        refine xo_rd (rd_fieldAddr rfl) rfl ?_
        refine xo_rd (rd_load1 rfl (Cl.o1 rfl)) rfl ?_
        refine xo_ef rfl (ef_call rfl (XF.mono (hpk _) ?_))
        rintro v L' ⟨rfl, rfl⟩
        refine xo_nil ?_
        refine xq_seq ?_
        refine xc_block ?_
        refine xc_seq ?_
        refine xc_seq ?_
        refine xc_region ?_
        refine xo_rd (rd_eql rfl rfl) rfl ?_
        refine xo_rd (rd_assign rfl) rfl ?_
        refine xo_nil ?_
        refine xq_seq ?_
        refine xc_condf rfl ?_
        refine xc_region ?_
        refine xo_rd (rd_eql rfl rfl) rfl ?_
        refine xo_rd (rd_assign rfl) rfl ?_
        refine xo_nil ?_
        refine xq_seq ?_
        refine xc_condt rfl ?_
        refine xc_seq ?_
        refine xc_region ?_
        refine xo_rd (rd_loadB rfl Kn.o2 (by rfl)) rfl ?_
        refine xo_rd (rd_move rfl) rfl ?_
        refine xo_ef rfl (ef_call rfl (XF.mono (hrt _ (by intro z hz; simp [hz])) ?_))
        rintro v L' ⟨y, N, q, kq, lb, rfl, hOq, hyw, hys, hyat, rfl⟩
        refine xo_rd (rd_move rfl) rfl ?_
        refine xo_rd (rd_extract rfl rfl) rfl ?_
        refine xo_rd (rd_extract rfl rfl) rfl ?_
        refine xo_ef rfl (ef_alloc fun r10 => ?_)
        refine xo_ef rfl (ef_storeB [] _ rfl rfl (by first | rfl | assumption) rfl rfl rfl ?_)
        refine xo_rd (rd_assign rfl) rfl ?_
        refine xo_nil ?_
        refine xq_seq ?_
      refine xc_perm (L' := rqB w r mb mo ((r10, Obj.cells y.enc.toArray 57 (0, 0)) :: (r8, Obj.cells (rzE 0 none 0 0).toArray 57 (0, 0)) :: (r6, Obj.cells a.enc.toArray 33 (0, 0)) :: (r5, Obj.cells x.enc.toArray 57 (0, 0)) :: (lb ++ (N ++ L)))) (perm_e1 w r mb mo _ _ _ _ lb N L) ?_
      obtain ⟨G, hG⟩ : ∃ G, (r10, Obj.cells y.enc.toArray 57 (0, 0)) :: (r8, Obj.cells (rzE 0 none 0 0).toArray 57 (0, 0)) :: (r6, Obj.cells a.enc.toArray 33 (0, 0)) :: (r5, Obj.cells x.enc.toArray 57 (0, 0)) :: (lb ++ (N ++ L)) = G := ⟨_, rfl⟩
      rw [hG]
      have hq2 : ∀ L' mo2, (∀ z, z ∈ rqB w r mb mo2 G → z ∈ L') → Rs W L' q (ints .u32 ds) := fun L' mo2 h => hOq.rs fun z hz => h z (List.mem_cons_of_mem _ (List.mem_cons_of_mem _ (by rw [← hG]; exact List.mem_cons_of_mem _ (List.mem_cons_of_mem _ (List.mem_cons_of_mem _ (List.mem_cons_of_mem _ (List.mem_append_left _ hz)))))))
      focus
        refine xc_seq ?_
        refine xc_region ?_
        refine xo_rd (rd_move rfl) rfl ?_
        refine xo_rd (rd_move rfl) rfl ?_
        refine xo_ef rfl (ef_call rfl (XF.mono (htk G) ?_))
        rintro v L' ⟨p, kp, lo, mo2, rfl, hO, hok, rfl⟩
        refine xo_rd (rd_assign rfl) rfl ?_
        refine xo_nil ?_
        refine xq_seq ?_
        refine xc_seq ?_
        refine xc_region ?_
        refine xo_rd (rd_move rfl) rfl ?_
        refine xo_rd (rd_move rfl) rfl ?_
        refine xo_ef rfl (ef_call rfl (XF.mono (xf_sameX p q ds.length ds.length kp kq ds ds rfl rfl (hO.rs (by intro z hz; simp [hz])) (hq2 _ mo2 (by intro z hz; simp [hz])) (by omega) rfl) ?_))
        rintro v L' ⟨rfl, rfl⟩
        refine xo_rd (rd_assign rfl) rfl ?_
        refine xo_nil ?_
        refine xq_seq ?_
        refine xc_seq ?_
        refine xc_seq ?_
        refine xc_region ?_
        refine xo_rd (rd_assign rfl) rfl ?_
        refine xo_nil ?_
        refine xq_seq ?_
        refine xc_block ?_
      refine xc_loopI (ι := SpS) (fun s => s.i ≤ ds.length ∧ s.xs.length = ds.length ∧ SlQ 1 30 (.slice p ds.length kp) ds.length (ints .u32 s.xs) s.l) (fun s => ds.length - s.i) (fun s => s.l ++ rqB w r mb mo2 G) (fun s => [(8, .pointer (some ⟨r8, 0, none⟩)), (10, .pointer (some ⟨r10, 0, none⟩)), (12, .slice p ds.length kp), (13, .bool true), (14, .int .i64 s.i)]) ⟨0, ds, lo⟩ ⟨Nat.zero_le _, rfl, hO⟩ rfl (by repeat (first | exact keep_nil | refine keep_cons rfl ?_)) ?_
      rintro ⟨i, xs, l4⟩ ⟨hi, hxl, hO4⟩
      dsimp only at hi hxl hO4 ⊢
      by_cases hin : i < ds.length
      · obtain ⟨b, o, hpb, hcb⟩ := (hO4.rsl (W := W) (R := rqB w r mb mo2 G)).int (i := i) (by omega)
        subst hpb
        focus
          refine xc_seq ?_
          refine xc_seq ?_
          refine xc_region ?_
          refine xo_rd (rd_move rfl) rfl ?_
          refine xo_rd (rd_move rfl) rfl ?_
          refine xo_rd (rd_len rfl) rfl ?_
          refine xo_rd (rd_lss rfl rfl) rfl ?_
          refine xo_nil ?_
          refine xq_seq ?_
          refine xc_dec rfl (fun hz1 => ?_) (fun hz1 => (by exfalso; omega))
          refine xc_skip ?_
          refine xq_seq ?_
          refine xc_seq ?_
          refine xc_block ?_
          refine xc_region ?_
          refine xo_rd (rd_move rfl) rfl ?_
          refine xo_rd (rd_move rfl) rfl ?_
          refine xo_rd (rd_indexAddr rfl rfl (by omega) (by omega)) rfl ?_
          refine xo_ef rfl (ef_storeQ1 [] (rqB w r mb mo2 G) i (v := .int .u32 99) hO4 rfl (by omega) rfl rfl rfl (by omega) rfl fun l5 hO5 => ?_)
          refine xo_nil ?_
          refine xq_block ?_
          refine xq_seq ?_
          refine xc_region ?_
          refine xo_rd (rd_move rfl) rfl ?_
          refine xo_rd (rd_addn rfl rfl (by omega) (by omega)) rfl ?_
          refine xo_rd (rd_assign rfl) rfl ?_
          refine xo_nil ?_
        exact xq_roundI (⟨i + 1, xs.set i 99, l5⟩ : SpS) ⟨by dsimp only; omega, by dsimp only; rw [List.length_set]; exact hxl, by dsimp only; rw [ints_set]; exact hO5⟩ (by dsimp only; omega) rfl (by repeat (first | exact keep_nil | refine keep_cons rfl ?_))
      · skip
        focus
          refine xc_seq ?_
          refine xc_seq ?_
          refine xc_region ?_
          refine xo_rd (rd_move rfl) rfl ?_
          refine xo_rd (rd_move rfl) rfl ?_
          refine xo_rd (rd_len rfl) rfl ?_
          refine xo_rd (rd_lss rfl rfl) rfl ?_
          refine xo_nil ?_
          refine xq_seq ?_
          refine xc_dec rfl (fun h1 => (by exfalso; omega)) (fun h1 => ?_)
          refine xc_exit ?_
          refine xq_then_exit ?_
          refine xq_then_exit ?_
          refine xq_block_hit ?_
          refine xq_seq ?_
        refine xc_sub (List.sublist_append_right l4 _) ?_
        subst hG
        refine xc_perm (L' := (r8, Obj.cells (rzE 0 none 0 0).toArray 57 (0, 0)) :: (r10, Obj.cells y.enc.toArray 57 (0, 0)) :: (r6, Obj.cells a.enc.toArray 33 (0, 0)) :: (r5, Obj.cells x.enc.toArray 57 (0, 0)) :: (lb ++ rqB w r mb mo2 (N ++ L))) (perm_e2 w r mb mo2 _ _ _ _ lb N L) ?_
        focus
          refine xc_seq ?_
          refine xc_region ?_
          refine xo_rd (rd_loadA (vs := y.enc) rfl rfl (cl_sub (b := r10) (vs := y.enc) (T := 57) (fr := (0, 0)) 0 (List.mem_cons_of_mem _ List.mem_cons_self) rfl)) rfl ?_
          refine xo_rd (rd_move rfl) rfl ?_
          refine xo_ef rfl (ef_storeB [] _ rfl rfl (by first | rfl | assumption) rfl rfl rfl ?_)
          refine xo_rd (rd_assign rfl) rfl ?_
          refine xo_nil ?_
          refine xq_seq ?_
          refine xc_ret ?_
          refine xq_block_ret ?_
          refine xq_then_ret ?_
        exact xq_retB2 (.inl rfl) Try.results24 rfl rfl Kn.o0 rfl ((List.sublist_append_right lb _).trans (List.sublist_append_right [_, _, _, _] _)) ⟨y, N, mo2, rfl, hyw, hys, hyat, hok, rfl⟩
  · have hd : doL 5 w l a.src now = ansA [a.src, a.src + 1] l := rfl
    rw [hd]
    have hra := fun (A : List Blk) (mo : Obj) => XF.into (w := w) (r := r) (mb := mb) (mo := mo) A L (φ := fun v y N => v = .agg (Rz.enc y).toArray ∧ y.w = w ∧ y.s = ansA [a.src] l ∧ y.At W (N ++ L0)) ((xr_Answered (W := W) (L := A ++ rqB w r mb mo L) L0 (fun z hz => List.mem_append_right _ (List.mem_cons_of_mem _ (List.mem_cons_of_mem _ (hs z hz)))) x hat a.src hso (by omega)).mono fun v L' ⟨y, N, h1, h2, h3, h4, h5⟩ => ⟨y, N, ⟨h1, h2.trans hxw, by rw [h3, hxs], h4⟩, h5⟩)
    have hrb := fun (A : List Blk) (mo : Obj) (y : Rz) (N : List Blk) (hyw : y.w = w) (hys : y.s = ansA [a.src] l) (hyat : y.At W (N ++ L0)) => XF.into (w := w) (r := r) (mb := mb) (mo := mo) A (N ++ L) (φ := fun v y2 N2 => v = .agg (Rz.enc y2).toArray ∧ y2.w = w ∧ y2.s = ansA [a.src, a.src + 1] l ∧ y2.At W (N2 ++ (N ++ L0))) ((xr_Answered (W := W) (L := A ++ rqB w r mb mo (N ++ L)) (N ++ L0) (fun z hz => List.mem_append_right _ (List.mem_cons_of_mem _ (List.mem_cons_of_mem _ ((List.mem_append.1 hz).elim (fun h => List.mem_append_left _ h) (fun h => List.mem_append_right _ (hs z h)))))) y hyat (a.src + 1) (by
      rw [hys]
      have : (ansA [a.src] l).map Sr.id = l.map Sr.id := by
        unfold ansA
        rw [List.map_map]
        exact List.map_congr_left fun s _ => anU_id [a.src] s
      rw [this]; exact hx.so) (by
      have := congrArg List.length hys
      unfold Rz.s ansA at this
      rw [List.length_map, List.length_map] at this
      have := hx.sm
      omega)).mono fun v L' ⟨y2, N2, h1, h2, h3, h4, h5⟩ => ⟨y2, N2, ⟨h1, h2.trans hyw, by rw [h3, hys, ansA_two], h4⟩, h5⟩)
    focus
      refine xc_seq ?_
      refine xc_region ?_
      refine xo_ef rfl (ef_box rfl fun r5 => ?_)
      refine xo_ef rfl (ef_box rfl fun r6 => ?_)
      refine xo_ef rfl (ef_alloc fun r8 => ?_)
      refine xo_rd (rd_assign rfl) rfl ?_
      refine xo_nil ?_
      refine xq_seq ?_
      refine xc_seq ?_
      refine xc_seq ?_
      refine xc_region ?_
      refine xo_rd (rd_fieldAddr rfl) rfl ?_
      refine xo_rd (rd_load1 rfl (Cl.o1 rfl)) rfl ?_
      refine xo_ef rfl (ef_call rfl (XF.mono (hpk _) ?_))
      rintro v L' ⟨rfl, rfl⟩
      refine xo_nil ?_
      refine xq_seq ?_
      refine xc_block ?_
      refine xc_seq ?_
      refine xc_seq ?_
      refine xc_region ?_
      refine xo_rd (rd_eql rfl rfl) rfl ?_
      refine xo_rd (rd_assign rfl) rfl ?_
      refine xo_nil ?_
      refine xq_seq ?_
      refine xc_condf rfl ?_
      refine xc_region ?_
      refine xo_rd (rd_eql rfl rfl) rfl ?_
      refine xo_rd (rd_assign rfl) rfl ?_
      refine xo_nil ?_
      refine xq_seq ?_
      refine xc_condf rfl ?_
      refine xc_seq ?_
      refine xc_region ?_
      refine xo_rd (rd_eql rfl rfl) rfl ?_
      refine xo_rd (rd_assign rfl) rfl ?_
      refine xo_nil ?_
      refine xq_seq ?_
      refine xc_condt rfl ?_
      refine xc_seq ?_
      refine xc_region ?_
      refine xo_rd (rd_move rfl) rfl ?_
      refine xo_rd (rd_fieldAddr rfl) rfl ?_
      refine xo_rd (rd_load1 rfl (Cl.o1 rfl)) rfl ?_
      refine xo_rd (rd_fieldAddr rfl) rfl ?_
      refine xo_rd (rd_load1 rfl (Cl.o1 rfl)) rfl ?_
      refine xo_rd (rd_addn rfl rfl (by omega) (by omega)) rfl ?_
      refine xo_ef rfl (ef_buildL (T := 34) (len := 2) (s := 1) (cells := (ints .u32 [a.src, a.src + 1]).toArray) rfl (by decide) (by decide) (by kernel_rfl) fun r54 => ?_)
      refine xo_ef rfl (ef_call rfl (XF.mono (ans_A ((r54, Obj.cells (ints .u32 [a.src, a.src + 1]).toArray 30 (0, 0)) :: [(r8, Obj.cells (rzE 0 none 0 0).toArray 57 (0, 0)), (r6, Obj.cells a.enc.toArray 33 (0, 0)), (r5, Obj.cells x.enc.toArray 57 (0, 0))]) w r mb mo l hx r54 a.src (a.src + 1) List.mem_cons_self) ?_))
      rintro v L' ⟨rfl, mo2, hok, rfl⟩
      refine xo_nil ?_
      refine xq_seq ?_
    focus
      refine xc_seq ?_
      refine xc_drawM [0, 0, 2, 5, 0, 16, 32, 72, 255, 511] [0, 0, 2, 5, 0, 16, 32, 72, 255, 511] [] (by kernel_rfl) (by kernel_rfl) (by kernel_rfl) ?_
      refine xm_take 1 (m' := 2) rfl (by kernel_rfl) Sb.a (rd_fieldAddr rfl) rfl (by kernel_rfl) ?_
      refine xm_take 4 (m' := 18) rfl (by kernel_rfl) Sb.a (rd_fieldAddr rfl) rfl (by kernel_rfl) ?_
      refine xm_three 0 2 5 (mi := 19) (mk := 22) (ml := 50) rfl rfl rfl (by kernel_rfl) rfl rfl rfl (by kernel_rfl) (by kernel_rfl) (by kernel_rfl) (ef_rd (rd_loadB rfl Kn.o3 (by rfl)) ⟨Sb.a, ?_⟩) (ef_rd (rd_load1 rfl (Cl.o2 rfl)) ⟨Sb.a, ?_⟩) (ef_rd (rd_load1 rfl (Cl.o2 rfl)) ⟨Sb.a, ?_⟩)
      refine xm_two 2 5 (mi := 23) (mk := 51) rfl rfl (by kernel_rfl) rfl rfl (by kernel_rfl) (by kernel_rfl) (ef_rd (rd_load1 rfl (Cl.o2 rfl)) ⟨Sb.a, ?_⟩) (ef_rd (rd_load1 rfl (Cl.o2 rfl)) ⟨Sb.a, ?_⟩)
      refine xm_two 3 5 (mi := 31) (mk := 55) rfl rfl (by kernel_rfl) rfl rfl (by kernel_rfl) (by kernel_rfl) (ef_call rfl (XF.mono (hra ((r54, Obj.cells (ints .u32 [a.src, a.src + 1]).toArray 30 (0, 0)) :: [(r8, Obj.cells (rzE 0 none 0 0).toArray 57 (0, 0)), (r6, Obj.cells a.enc.toArray 33 (0, 0)), (r5, Obj.cells x.enc.toArray 57 (0, 0))]) mo2) ?_)) (ef_rd (rd_load1 rfl (Cl.o2 rfl)) ⟨Sb.a, ?_⟩)
      rotate_left
      rotate_right
      rintro v L' ⟨y, N, ⟨rfl, hyw, hys, hyat⟩, rfl⟩
      refine ⟨Sb.a, ?_⟩
      refine xm_one 5 (m' := 63) rfl (by kernel_rfl) rfl (by kernel_rfl) (ef_rd (rd_load1 rfl (Cl.o2 rfl)) ?_)
      refine ⟨Sb.a, ?_⟩
      refine xm_take 6 (m' := 127) rfl (by kernel_rfl) Sb.a (rd_addn rfl rfl (by omega) (by omega)) rfl (by kernel_rfl) ?_
      refine xm_one 7 (m' := 255) rfl (by kernel_rfl) rfl (by kernel_rfl) (ef_call rfl (XF.mono (hrb ((r54, Obj.cells (ints .u32 [a.src, a.src + 1]).toArray 30 (0, 0)) :: [(r8, Obj.cells (rzE 0 none 0 0).toArray 57 (0, 0)), (r6, Obj.cells a.enc.toArray 33 (0, 0)), (r5, Obj.cells x.enc.toArray 57 (0, 0))]) mo2 y N hyw hys hyat) ?_))
      rintro v L' ⟨y2, N2, ⟨rfl, hy2w, hy2s, hy2at⟩, rfl⟩
      refine ⟨Sb.a, ?_⟩
      refine xm_one 8 (m' := 511) rfl (by kernel_rfl) rfl (by kernel_rfl) (ef_storeB [_] _ rfl rfl (by first | rfl | assumption) rfl rfl rfl ?_)
      refine ⟨Sb.a, ?_⟩
      refine xm_take 9 (m' := 1023) rfl (by kernel_rfl) Sb.a (rd_assign rfl) rfl (by kernel_rfl) ?_
      refine xm_done (by kernel_rfl) ?_
      refine xq_seq ?_
      refine xc_ret ?_
      refine xq_block_ret ?_
      refine xq_then_ret ?_
      rotate_left
      refine xm_take 6 (m' := 119) rfl (by kernel_rfl) Sb.a (rd_addn rfl rfl (by omega) (by omega)) rfl (by kernel_rfl) ?_
      refine xm_one 3 (m' := 127) rfl (by kernel_rfl) rfl (by kernel_rfl) (ef_call rfl (XF.mono (hra ((r54, Obj.cells (ints .u32 [a.src, a.src + 1]).toArray 30 (0, 0)) :: [(r8, Obj.cells (rzE 0 none 0 0).toArray 57 (0, 0)), (r6, Obj.cells a.enc.toArray 33 (0, 0)), (r5, Obj.cells x.enc.toArray 57 (0, 0))]) mo2) ?_))
      rintro v L' ⟨y, N, ⟨rfl, hyw, hys, hyat⟩, rfl⟩
      refine ⟨Sb.a, ?_⟩
      refine xm_one 7 (m' := 255) rfl (by kernel_rfl) rfl (by kernel_rfl) (ef_call rfl (XF.mono (hrb ((r54, Obj.cells (ints .u32 [a.src, a.src + 1]).toArray 30 (0, 0)) :: [(r8, Obj.cells (rzE 0 none 0 0).toArray 57 (0, 0)), (r6, Obj.cells a.enc.toArray 33 (0, 0)), (r5, Obj.cells x.enc.toArray 57 (0, 0))]) mo2 y N hyw hys hyat) ?_))
      rintro v L' ⟨y2, N2, ⟨rfl, hy2w, hy2s, hy2at⟩, rfl⟩
      refine ⟨Sb.a, ?_⟩
      refine xm_one 8 (m' := 511) rfl (by kernel_rfl) rfl (by kernel_rfl) (ef_storeB [_] _ rfl rfl (by first | rfl | assumption) rfl rfl rfl ?_)
      refine ⟨Sb.a, ?_⟩
      refine xm_take 9 (m' := 1023) rfl (by kernel_rfl) Sb.a (rd_assign rfl) rfl (by kernel_rfl) ?_
      refine xm_done (by kernel_rfl) ?_
      refine xq_seq ?_
      refine xc_ret ?_
      refine xq_block_ret ?_
      refine xq_then_ret ?_
      rotate_left
      refine xm_take 6 (m' := 115) rfl (by kernel_rfl) Sb.a (rd_addn rfl rfl (by omega) (by omega)) rfl (by kernel_rfl) ?_
      refine xm_one 2 (m' := 119) rfl (by kernel_rfl) rfl (by kernel_rfl) (ef_rd (rd_load1 rfl (Cl.o2 rfl)) ?_)
      refine ⟨Sb.a, ?_⟩
      refine xm_one 3 (m' := 127) rfl (by kernel_rfl) rfl (by kernel_rfl) (ef_call rfl (XF.mono (hra ((r54, Obj.cells (ints .u32 [a.src, a.src + 1]).toArray 30 (0, 0)) :: [(r8, Obj.cells (rzE 0 none 0 0).toArray 57 (0, 0)), (r6, Obj.cells a.enc.toArray 33 (0, 0)), (r5, Obj.cells x.enc.toArray 57 (0, 0))]) mo2) ?_))
      rintro v L' ⟨y, N, ⟨rfl, hyw, hys, hyat⟩, rfl⟩
      refine ⟨Sb.a, ?_⟩
      refine xm_one 7 (m' := 255) rfl (by kernel_rfl) rfl (by kernel_rfl) (ef_call rfl (XF.mono (hrb ((r54, Obj.cells (ints .u32 [a.src, a.src + 1]).toArray 30 (0, 0)) :: [(r8, Obj.cells (rzE 0 none 0 0).toArray 57 (0, 0)), (r6, Obj.cells a.enc.toArray 33 (0, 0)), (r5, Obj.cells x.enc.toArray 57 (0, 0))]) mo2 y N hyw hys hyat) ?_))
      rintro v L' ⟨y2, N2, ⟨rfl, hy2w, hy2s, hy2at⟩, rfl⟩
      refine ⟨Sb.a, ?_⟩
      refine xm_one 8 (m' := 511) rfl (by kernel_rfl) rfl (by kernel_rfl) (ef_storeB [_] _ rfl rfl (by first | rfl | assumption) rfl rfl rfl ?_)
      refine ⟨Sb.a, ?_⟩
      refine xm_take 9 (m' := 1023) rfl (by kernel_rfl) Sb.a (rd_assign rfl) rfl (by kernel_rfl) ?_
      refine xm_done (by kernel_rfl) ?_
      refine xq_seq ?_
      refine xc_ret ?_
      refine xq_block_ret ?_
      refine xq_then_ret ?_
      rotate_left
      refine xm_two 0 5 (mi := 23) (mk := 54) rfl rfl (by kernel_rfl) rfl rfl (by kernel_rfl) (by kernel_rfl) (ef_rd (rd_loadB rfl Kn.o3 (by rfl)) ⟨Sb.a, ?_⟩) (ef_rd (rd_load1 rfl (Cl.o2 rfl)) ⟨Sb.a, ?_⟩)
      refine xm_two 3 5 (mi := 31) (mk := 55) rfl rfl (by kernel_rfl) rfl rfl (by kernel_rfl) (by kernel_rfl) (ef_call rfl (XF.mono (hra ((r54, Obj.cells (ints .u32 [a.src, a.src + 1]).toArray 30 (0, 0)) :: [(r8, Obj.cells (rzE 0 none 0 0).toArray 57 (0, 0)), (r6, Obj.cells a.enc.toArray 33 (0, 0)), (r5, Obj.cells x.enc.toArray 57 (0, 0))]) mo2) ?_)) (ef_rd (rd_load1 rfl (Cl.o2 rfl)) ⟨Sb.a, ?_⟩)
      rotate_left
      rotate_right
      rintro v L' ⟨y, N, ⟨rfl, hyw, hys, hyat⟩, rfl⟩
      refine ⟨Sb.a, ?_⟩
      refine xm_one 5 (m' := 63) rfl (by kernel_rfl) rfl (by kernel_rfl) (ef_rd (rd_load1 rfl (Cl.o2 rfl)) ?_)
      refine ⟨Sb.a, ?_⟩
      refine xm_take 6 (m' := 127) rfl (by kernel_rfl) Sb.a (rd_addn rfl rfl (by omega) (by omega)) rfl (by kernel_rfl) ?_
      refine xm_one 7 (m' := 255) rfl (by kernel_rfl) rfl (by kernel_rfl) (ef_call rfl (XF.mono (hrb ((r54, Obj.cells (ints .u32 [a.src, a.src + 1]).toArray 30 (0, 0)) :: [(r8, Obj.cells (rzE 0 none 0 0).toArray 57 (0, 0)), (r6, Obj.cells a.enc.toArray 33 (0, 0)), (r5, Obj.cells x.enc.toArray 57 (0, 0))]) mo2 y N hyw hys hyat) ?_))
      rintro v L' ⟨y2, N2, ⟨rfl, hy2w, hy2s, hy2at⟩, rfl⟩
      refine ⟨Sb.a, ?_⟩
      refine xm_one 8 (m' := 511) rfl (by kernel_rfl) rfl (by kernel_rfl) (ef_storeB [_] _ rfl rfl (by first | rfl | assumption) rfl rfl rfl ?_)
      refine ⟨Sb.a, ?_⟩
      refine xm_take 9 (m' := 1023) rfl (by kernel_rfl) Sb.a (rd_assign rfl) rfl (by kernel_rfl) ?_
      refine xm_done (by kernel_rfl) ?_
      refine xq_seq ?_
      refine xc_ret ?_
      refine xq_block_ret ?_
      refine xq_then_ret ?_
      rotate_left
      refine xm_take 6 (m' := 119) rfl (by kernel_rfl) Sb.a (rd_addn rfl rfl (by omega) (by omega)) rfl (by kernel_rfl) ?_
      refine xm_one 3 (m' := 127) rfl (by kernel_rfl) rfl (by kernel_rfl) (ef_call rfl (XF.mono (hra ((r54, Obj.cells (ints .u32 [a.src, a.src + 1]).toArray 30 (0, 0)) :: [(r8, Obj.cells (rzE 0 none 0 0).toArray 57 (0, 0)), (r6, Obj.cells a.enc.toArray 33 (0, 0)), (r5, Obj.cells x.enc.toArray 57 (0, 0))]) mo2) ?_))
      rintro v L' ⟨y, N, ⟨rfl, hyw, hys, hyat⟩, rfl⟩
      refine ⟨Sb.a, ?_⟩
      refine xm_one 7 (m' := 255) rfl (by kernel_rfl) rfl (by kernel_rfl) (ef_call rfl (XF.mono (hrb ((r54, Obj.cells (ints .u32 [a.src, a.src + 1]).toArray 30 (0, 0)) :: [(r8, Obj.cells (rzE 0 none 0 0).toArray 57 (0, 0)), (r6, Obj.cells a.enc.toArray 33 (0, 0)), (r5, Obj.cells x.enc.toArray 57 (0, 0))]) mo2 y N hyw hys hyat) ?_))
      rintro v L' ⟨y2, N2, ⟨rfl, hy2w, hy2s, hy2at⟩, rfl⟩
      refine ⟨Sb.a, ?_⟩
      refine xm_one 8 (m' := 511) rfl (by kernel_rfl) rfl (by kernel_rfl) (ef_storeB [_] _ rfl rfl (by first | rfl | assumption) rfl rfl rfl ?_)
      refine ⟨Sb.a, ?_⟩
      refine xm_take 9 (m' := 1023) rfl (by kernel_rfl) Sb.a (rd_assign rfl) rfl (by kernel_rfl) ?_
      refine xm_done (by kernel_rfl) ?_
      refine xq_seq ?_
      refine xc_ret ?_
      refine xq_block_ret ?_
      refine xq_then_ret ?_
      rotate_left
      refine xm_take 6 (m' := 118) rfl (by kernel_rfl) Sb.a (rd_addn rfl rfl (by omega) (by omega)) rfl (by kernel_rfl) ?_
      refine xm_one 0 (m' := 119) rfl (by kernel_rfl) rfl (by kernel_rfl) (ef_rd (rd_loadB rfl Kn.o3 (by rfl)) ?_)
      refine ⟨Sb.a, ?_⟩
      refine xm_one 3 (m' := 127) rfl (by kernel_rfl) rfl (by kernel_rfl) (ef_call rfl (XF.mono (hra ((r54, Obj.cells (ints .u32 [a.src, a.src + 1]).toArray 30 (0, 0)) :: [(r8, Obj.cells (rzE 0 none 0 0).toArray 57 (0, 0)), (r6, Obj.cells a.enc.toArray 33 (0, 0)), (r5, Obj.cells x.enc.toArray 57 (0, 0))]) mo2) ?_))
      rintro v L' ⟨y, N, ⟨rfl, hyw, hys, hyat⟩, rfl⟩
      refine ⟨Sb.a, ?_⟩
      refine xm_one 7 (m' := 255) rfl (by kernel_rfl) rfl (by kernel_rfl) (ef_call rfl (XF.mono (hrb ((r54, Obj.cells (ints .u32 [a.src, a.src + 1]).toArray 30 (0, 0)) :: [(r8, Obj.cells (rzE 0 none 0 0).toArray 57 (0, 0)), (r6, Obj.cells a.enc.toArray 33 (0, 0)), (r5, Obj.cells x.enc.toArray 57 (0, 0))]) mo2 y N hyw hys hyat) ?_))
      rintro v L' ⟨y2, N2, ⟨rfl, hy2w, hy2s, hy2at⟩, rfl⟩
      refine ⟨Sb.a, ?_⟩
      refine xm_one 8 (m' := 511) rfl (by kernel_rfl) rfl (by kernel_rfl) (ef_storeB [_] _ rfl rfl (by first | rfl | assumption) rfl rfl rfl ?_)
      refine ⟨Sb.a, ?_⟩
      refine xm_take 9 (m' := 1023) rfl (by kernel_rfl) Sb.a (rd_assign rfl) rfl (by kernel_rfl) ?_
      refine xm_done (by kernel_rfl) ?_
      refine xq_seq ?_
      refine xc_ret ?_
      refine xq_block_ret ?_
      refine xq_then_ret ?_
      rotate_left
      refine xm_take 6 (m' := 114) rfl (by kernel_rfl) Sb.a (rd_addn rfl rfl (by omega) (by omega)) rfl (by kernel_rfl) ?_
      refine xm_two 0 2 (mi := 115) (mk := 118) rfl rfl (by kernel_rfl) rfl rfl (by kernel_rfl) (by kernel_rfl) (ef_rd (rd_loadB rfl Kn.o3 (by rfl)) ⟨Sb.a, ?_⟩) (ef_rd (rd_load1 rfl (Cl.o2 rfl)) ⟨Sb.a, ?_⟩)
      refine xm_one 2 (m' := 119) rfl (by kernel_rfl) rfl (by kernel_rfl) (ef_rd (rd_load1 rfl (Cl.o2 rfl)) ?_)
      refine ⟨Sb.a, ?_⟩
      refine xm_one 3 (m' := 127) rfl (by kernel_rfl) rfl (by kernel_rfl) (ef_call rfl (XF.mono (hra ((r54, Obj.cells (ints .u32 [a.src, a.src + 1]).toArray 30 (0, 0)) :: [(r8, Obj.cells (rzE 0 none 0 0).toArray 57 (0, 0)), (r6, Obj.cells a.enc.toArray 33 (0, 0)), (r5, Obj.cells x.enc.toArray 57 (0, 0))]) mo2) ?_))
      rintro v L' ⟨y, N, ⟨rfl, hyw, hys, hyat⟩, rfl⟩
      refine ⟨Sb.a, ?_⟩
      refine xm_one 7 (m' := 255) rfl (by kernel_rfl) rfl (by kernel_rfl) (ef_call rfl (XF.mono (hrb ((r54, Obj.cells (ints .u32 [a.src, a.src + 1]).toArray 30 (0, 0)) :: [(r8, Obj.cells (rzE 0 none 0 0).toArray 57 (0, 0)), (r6, Obj.cells a.enc.toArray 33 (0, 0)), (r5, Obj.cells x.enc.toArray 57 (0, 0))]) mo2 y N hyw hys hyat) ?_))
      rintro v L' ⟨y2, N2, ⟨rfl, hy2w, hy2s, hy2at⟩, rfl⟩
      refine ⟨Sb.a, ?_⟩
      refine xm_one 8 (m' := 511) rfl (by kernel_rfl) rfl (by kernel_rfl) (ef_storeB [_] _ rfl rfl (by first | rfl | assumption) rfl rfl rfl ?_)
      refine ⟨Sb.a, ?_⟩
      refine xm_take 9 (m' := 1023) rfl (by kernel_rfl) Sb.a (rd_assign rfl) rfl (by kernel_rfl) ?_
      refine xm_done (by kernel_rfl) ?_
      refine xq_seq ?_
      refine xc_ret ?_
      refine xq_block_ret ?_
      refine xq_then_ret ?_
      rotate_left
      refine xm_one 0 (m' := 119) rfl (by kernel_rfl) rfl (by kernel_rfl) (ef_rd (rd_loadB rfl Kn.o3 (by rfl)) ?_)
      refine ⟨Sb.a, ?_⟩
      refine xm_one 3 (m' := 127) rfl (by kernel_rfl) rfl (by kernel_rfl) (ef_call rfl (XF.mono (hra ((r54, Obj.cells (ints .u32 [a.src, a.src + 1]).toArray 30 (0, 0)) :: [(r8, Obj.cells (rzE 0 none 0 0).toArray 57 (0, 0)), (r6, Obj.cells a.enc.toArray 33 (0, 0)), (r5, Obj.cells x.enc.toArray 57 (0, 0))]) mo2) ?_))
      rintro v L' ⟨y, N, ⟨rfl, hyw, hys, hyat⟩, rfl⟩
      refine ⟨Sb.a, ?_⟩
      refine xm_one 7 (m' := 255) rfl (by kernel_rfl) rfl (by kernel_rfl) (ef_call rfl (XF.mono (hrb ((r54, Obj.cells (ints .u32 [a.src, a.src + 1]).toArray 30 (0, 0)) :: [(r8, Obj.cells (rzE 0 none 0 0).toArray 57 (0, 0)), (r6, Obj.cells a.enc.toArray 33 (0, 0)), (r5, Obj.cells x.enc.toArray 57 (0, 0))]) mo2 y N hyw hys hyat) ?_))
      rintro v L' ⟨y2, N2, ⟨rfl, hy2w, hy2s, hy2at⟩, rfl⟩
      refine ⟨Sb.a, ?_⟩
      refine xm_one 8 (m' := 511) rfl (by kernel_rfl) rfl (by kernel_rfl) (ef_storeB [_] _ rfl rfl (by first | rfl | assumption) rfl rfl rfl ?_)
      refine ⟨Sb.a, ?_⟩
      refine xm_take 9 (m' := 1023) rfl (by kernel_rfl) Sb.a (rd_assign rfl) rfl (by kernel_rfl) ?_
      refine xm_done (by kernel_rfl) ?_
      refine xq_seq ?_
      refine xc_ret ?_
      refine xq_block_ret ?_
      refine xq_then_ret ?_
      rotate_left
    all_goals exact xq_retB2 (.inl rfl) Try.results24 rfl rfl Kn.o1 rfl (List.sublist_append_right [_, _, _, _] _) ⟨y2, N2 ++ N, mo2, rfl, hy2w, hy2s, by rw [List.append_assoc]; exact hy2at, hok, by rw [List.append_assoc]⟩
  · have hd : doL 6 w l a.src now = dropL l a.src := rfl
    rw [hd]
    have hrd := fun L' (h : ∀ z, z ∈ rqB w r mb mo L → z ∈ L') => xr_Drop (W := W) (L := L') x (hat.mono fun z hz => h z (hLq z hz)) a.src
    have hra := fun (A : List Blk) (mo : Obj) => XF.into (w := w) (r := r) (mb := mb) (mo := mo) A L (φ := fun v y N => v = .agg (Rz.enc y).toArray ∧ y.w = w ∧ y.s = dropL l a.src ∧ y.At W (N ++ L0)) ((xr_Drop (W := W) (L := A ++ rqB w r mb mo L) x (hat.mono fun z hz => List.mem_append_right _ (List.mem_cons_of_mem _ (List.mem_cons_of_mem _ (hs z hz)))) a.src).mono fun v L' ⟨q, k, lb, h1, h2, h3⟩ => ⟨⟨x.w, dropX x.l a.src, q, k⟩, lb, ⟨h1, hxw, by
        rw [← hxs]
        unfold Rz.s dropX dropL
        rw [List.filter_map]
        congr 1, ⟨h2.rs fun z hz => List.mem_append_left _ hz, fun u hu => (hat.a u (List.mem_filter.1 hu).1).mono fun z hz => List.mem_append_right _ hz, Nat.le_trans (dropX_le _ _) hat.ll, fun u hu => hat.al u (List.mem_filter.1 hu).1⟩⟩, h3⟩)
    focus
      refine xc_seq ?_
      refine xc_region ?_
      refine xo_ef rfl (ef_box rfl fun r5 => ?_)
      refine xo_ef rfl (ef_box rfl fun r6 => ?_)
      refine xo_ef rfl (ef_alloc fun r8 => ?_)
      refine xo_rd (rd_assign rfl) rfl ?_
      refine xo_nil ?_
      refine xq_seq ?_
      refine xc_seq ?_
      refine xc_seq ?_
      refine xc_region ?_
      refine xo_rd (rd_fieldAddr rfl) rfl ?_
      refine xo_rd (rd_load1 rfl (Cl.o1 rfl)) rfl ?_
      refine xo_ef rfl (ef_call rfl (XF.mono (hpk _) ?_))
      rintro v L' ⟨rfl, rfl⟩
      refine xo_nil ?_
      refine xq_seq ?_
      refine xc_block ?_
      refine xc_seq ?_
      refine xc_seq ?_
      refine xc_region ?_
      refine xo_rd (rd_eql rfl rfl) rfl ?_
      refine xo_rd (rd_assign rfl) rfl ?_
      refine xo_nil ?_
      refine xq_seq ?_
      refine xc_condf rfl ?_
      refine xc_region ?_
      refine xo_rd (rd_eql rfl rfl) rfl ?_
      refine xo_rd (rd_assign rfl) rfl ?_
      refine xo_nil ?_
      refine xq_seq ?_
      refine xc_condf rfl ?_
      refine xc_seq ?_
      refine xc_region ?_
      refine xo_rd (rd_eql rfl rfl) rfl ?_
      refine xo_rd (rd_assign rfl) rfl ?_
      refine xo_nil ?_
      refine xq_seq ?_
      refine xc_condf rfl ?_
      refine xc_seq ?_
      refine xc_region ?_
      refine xo_rd (rd_eql rfl rfl) rfl ?_
      refine xo_rd (rd_assign rfl) rfl ?_
      refine xo_nil ?_
      refine xq_seq ?_
      refine xc_condt rfl ?_
      refine xc_seq ?_
      refine xc_region ?_
      refine xo_rd (rd_move rfl) rfl ?_
      refine xo_rd (rd_fieldAddr rfl) rfl ?_
      refine xo_rd (rd_load1 rfl (Cl.o1 rfl)) rfl ?_
      refine xo_rd (rd_fieldAddr rfl) rfl ?_
      refine xo_rd (rd_load1 rfl (Cl.o1 rfl)) rfl ?_
      refine xo_ef rfl (ef_buildL (T := 34) (len := 2) (s := 1) (cells := (ints .u32 [a.src, a.src]).toArray) rfl (by decide) (by decide) (by kernel_rfl) fun r71 => ?_)
      refine xo_ef rfl (ef_call rfl (XF.mono (drop_A ((r71, Obj.cells (ints .u32 [a.src, a.src]).toArray 30 (0, 0)) :: [(r8, Obj.cells (rzE 0 none 0 0).toArray 57 (0, 0)), (r6, Obj.cells a.enc.toArray 33 (0, 0)), (r5, Obj.cells x.enc.toArray 57 (0, 0))]) w r mb mo l hx r71 a.src List.mem_cons_self) ?_))
      rintro v L' ⟨rfl, mo2, hok, rfl⟩
      refine xo_nil ?_
      refine xq_seq ?_
    focus
      refine xc_seq ?_
      refine xc_region ?_
      refine xo_rd (rd_loadB rfl Kn.o3 (by rfl)) rfl ?_
      refine xo_rd (rd_fieldAddr rfl) rfl ?_
      refine xo_rd (rd_load1 rfl (Cl.o2 rfl)) rfl ?_
      refine xo_ef rfl (ef_call rfl (XF.mono (hra ((r71, Obj.cells (ints .u32 [a.src, a.src]).toArray 30 (0, 0)) :: [(r8, Obj.cells (rzE 0 none 0 0).toArray 57 (0, 0)), (r6, Obj.cells a.enc.toArray 33 (0, 0)), (r5, Obj.cells x.enc.toArray 57 (0, 0))]) mo2) ?_))
      rintro v L' ⟨y, N, ⟨rfl, hyw, hys, hyat⟩, rfl⟩
      refine xo_ef rfl (ef_storeB [_] _ rfl rfl (by first | rfl | assumption) rfl rfl rfl ?_)
      refine xo_rd (rd_assign rfl) rfl ?_
      refine xo_nil ?_
      refine xq_seq ?_
      refine xc_ret ?_
      refine xq_block_ret ?_
      refine xq_then_ret ?_
    exact xq_retB2 (.inl rfl) Try.results24 rfl rfl Kn.o1 rfl (List.sublist_append_right [_, _, _, _] _) ⟨y, N, mo2, rfl, hyw, hys, hyat, hok, rfl⟩
  · have hd : doL k w l a.src now = askL w l a.src now := by unfold doL; rw [if_neg (by omega), if_neg (by omega), if_neg (by omega)]
    rw [hd]
    rcases hc with rfl | rfl | rfl
    · obtain ⟨b, hb⟩ : ∃ b, mayB w (getS l a.src) now = b := ⟨_, rfl⟩
      have era := fun (A : List Blk) => XF.into (w := w) (r := r) (mb := mb) (mo := mo) A L (φ := fun v y N => v = .tuple #[.agg (Rz.enc y).toArray, .bool b] ∧ y.w = w ∧ y.s = askL w l a.src now ∧ y.At W (N ++ L0)) ((xr_Ask (W := W) (L := A ++ rqB w r mb mo L) L0 (fun z hz => List.mem_append_right _ (hLq z hz)) x hat a.src now hso (by omega) (fun u hu => by have := hal u hu; omega) hla hn b (by rw [hxw, hxs]; exact hb)).mono fun v L' ⟨y, N, h1, h2, h3, h4, h5⟩ => ⟨y, N, ⟨h1, h2.trans hxw, by rw [h3, hxw, hxs], h4⟩, h5⟩)
      focus
        refine xc_seq ?_
        refine xc_region ?_
        refine xo_ef rfl (ef_box rfl fun r5 => ?_)
        refine xo_ef rfl (ef_box rfl fun r6 => ?_)
        refine xo_ef rfl (ef_alloc fun r8 => ?_)
        refine xo_rd (rd_assign rfl) rfl ?_
        refine xo_nil ?_
        refine xq_seq ?_
        refine xc_seq ?_
        refine xc_seq ?_
        refine xc_region ?_
        refine xo_rd (rd_fieldAddr rfl) rfl ?_
        refine xo_rd (rd_load1 rfl (Cl.o1 rfl)) rfl ?_
        refine xo_ef rfl (ef_call rfl (XF.mono (hpk _) ?_))
        rintro v L' ⟨rfl, rfl⟩
        refine xo_nil ?_
        refine xq_seq ?_
        refine xc_block ?_
        refine xc_seq ?_
        refine xc_seq ?_
        refine xc_region ?_
        refine xo_rd (rd_eql rfl rfl) rfl ?_
        refine xo_rd (rd_assign rfl) rfl ?_
        refine xo_nil ?_
        refine xq_seq ?_
        refine xc_condf rfl ?_
        refine xc_region ?_
        refine xo_rd (rd_eql rfl rfl) rfl ?_
        refine xo_rd (rd_assign rfl) rfl ?_
        refine xo_nil ?_
        refine xq_seq ?_
        refine xc_condf rfl ?_
        refine xc_seq ?_
        refine xc_region ?_
        refine xo_rd (rd_eql rfl rfl) rfl ?_
        refine xo_rd (rd_assign rfl) rfl ?_
        refine xo_nil ?_
        refine xq_seq ?_
        refine xc_condf rfl ?_
        refine xc_seq ?_
        refine xc_region ?_
        refine xo_rd (rd_eql rfl rfl) rfl ?_
        refine xo_rd (rd_assign rfl) rfl ?_
        refine xo_nil ?_
        refine xq_seq ?_
        refine xc_condf rfl ?_
        refine xc_skip ?_
        refine xq_block ?_
        refine xq_seq ?_
        refine xc_seq ?_
        refine xc_region ?_
        refine xo_rd (rd_loadB rfl Kn.o2 (by rfl)) rfl ?_
        refine xo_rd (rd_fieldAddr rfl) rfl ?_
        refine xo_rd (rd_load1 rfl (Cl.o1 rfl)) rfl ?_
        refine xo_rd (rd_move rfl) rfl ?_
        refine xo_ef rfl (ef_call rfl (XF.mono (era [(r8, Obj.cells (rzE 0 none 0 0).toArray 57 (0, 0)), (r6, Obj.cells a.enc.toArray 33 (0, 0)), (r5, Obj.cells x.enc.toArray 57 (0, 0))]) ?_))
        rintro v L' ⟨y, N, ⟨rfl, hyw, hys, hyat⟩, rfl⟩
        refine xo_rd (rd_move rfl) rfl ?_
        refine xo_rd (rd_extract rfl rfl) rfl ?_
        refine xo_rd (rd_extract rfl rfl) rfl ?_
        refine xo_ef rfl (ef_alloc fun r15 => ?_)
        refine xo_ef rfl (ef_storeB [] _ rfl rfl (by first | rfl | assumption) rfl rfl rfl ?_)
        refine xo_rd (rd_assign rfl) rfl ?_
        refine xo_nil ?_
        refine xq_seq ?_
      focus
        refine xc_seq ?_
        refine xc_drawM [0, 0, 0, 4, 0, 26, 0, 96, 33, 511] [0, 0, 0, 4, 0, 26, 0, 96, 33, 511] [] (by kernel_rfl) (by kernel_rfl) (by kernel_rfl) ?_
        refine xm_take 1 (m' := 2) rfl (by kernel_rfl) Sb.a (rd_move rfl) rfl (by kernel_rfl) ?_
        refine xm_take 2 (m' := 6) rfl (by kernel_rfl) Sb.a (rd_fieldAddr rfl) rfl (by kernel_rfl) ?_
        refine xm_take 4 (m' := 22) rfl (by kernel_rfl) Sb.a (rd_move rfl) rfl (by kernel_rfl) ?_
        refine xm_take 6 (m' := 86) rfl (by kernel_rfl) Sb.a (rd_move rfl) rfl (by kernel_rfl) ?_
        refine xm_two 0 3 (mi := 87) (mk := 94) rfl rfl (by kernel_rfl) rfl rfl (by kernel_rfl) (by kernel_rfl) (ef_rd (rd_loadB rfl Kn.o0 (by rfl)) ⟨Sb.a, ?_⟩) (ef_rd (rd_load1 rfl (Cl.o2 rfl)) ⟨Sb.a, ?_⟩)
        refine xm_one 3 (m' := 95) rfl (by kernel_rfl) rfl (by kernel_rfl) (ef_rd (rd_load1 rfl (Cl.o2 rfl)) ?_)
        refine ⟨Sb.a, ?_⟩
        refine xm_one 5 (m' := 127) rfl (by kernel_rfl) rfl (by kernel_rfl) (ef_call rfl (XF.mono (ask_A (L := N ++ L) [(r15, Obj.cells y.enc.toArray 57 (0, 0)), (r8, Obj.cells (rzE 0 none 0 0).toArray 57 (0, 0)), (r6, Obj.cells a.enc.toArray 33 (0, 0)), (r5, Obj.cells x.enc.toArray 57 (0, 0))] w r mb mo l hx a.src now (by omega) hn hgs h12 b hb) ?_))
        rintro v L' ⟨rfl, mo2, hok, rfl⟩
        refine ⟨Sb.a, ?_⟩
        refine xm_take 7 (m' := 255) rfl (by kernel_rfl) Sb.a (rd_cast (v' := .bool true) (rd_eqb rfl rfl) (by rw [beq_self_eq_true])) rfl (by kernel_rfl) ?_
        refine xm_one 8 (m' := 511) rfl (by kernel_rfl) rfl (by kernel_rfl) (ef_storeB [_] _ rfl rfl (by first | rfl | assumption) rfl rfl rfl ?_)
        refine ⟨Sb.a, ?_⟩
        refine xm_take 9 (m' := 1023) rfl (by kernel_rfl) Sb.a (rd_assign rfl) rfl (by kernel_rfl) ?_
        refine xm_done (by kernel_rfl) ?_
        refine xq_seq ?_
        refine xc_ret ?_
        rotate_left
        refine xm_two 0 5 (mi := 95) (mk := 126) rfl rfl (by kernel_rfl) rfl rfl (by kernel_rfl) (by kernel_rfl) (ef_rd (rd_loadB rfl Kn.o0 (by rfl)) ⟨Sb.a, ?_⟩) (ef_call rfl (XF.mono (ask_A (L := N ++ L) [(r15, Obj.cells y.enc.toArray 57 (0, 0)), (r8, Obj.cells (rzE 0 none 0 0).toArray 57 (0, 0)), (r6, Obj.cells a.enc.toArray 33 (0, 0)), (r5, Obj.cells x.enc.toArray 57 (0, 0))] w r mb mo l hx a.src now (by omega) hn hgs h12 b hb) ?_))
        rotate_left
        rintro v L' ⟨rfl, mo2, hok, rfl⟩
        refine ⟨Sb.a, ?_⟩
        rotate_right
        refine xm_one 5 (m' := 127) rfl (by kernel_rfl) rfl (by kernel_rfl) (ef_call rfl (XF.mono (ask_A (L := N ++ L) [(r15, Obj.cells y.enc.toArray 57 (0, 0)), (r8, Obj.cells (rzE 0 none 0 0).toArray 57 (0, 0)), (r6, Obj.cells a.enc.toArray 33 (0, 0)), (r5, Obj.cells x.enc.toArray 57 (0, 0))] w r mb mo l hx a.src now (by omega) hn hgs h12 b hb) ?_))
        rintro v L' ⟨rfl, mo2, hok, rfl⟩
        refine ⟨Sb.a, ?_⟩
        refine xm_take 7 (m' := 255) rfl (by kernel_rfl) Sb.a (rd_cast (v' := .bool true) (rd_eqb rfl rfl) (by rw [beq_self_eq_true])) rfl (by kernel_rfl) ?_
        refine xm_one 8 (m' := 511) rfl (by kernel_rfl) rfl (by kernel_rfl) (ef_storeB [_] _ rfl rfl (by first | rfl | assumption) rfl rfl rfl ?_)
        refine ⟨Sb.a, ?_⟩
        refine xm_take 9 (m' := 1023) rfl (by kernel_rfl) Sb.a (rd_assign rfl) rfl (by kernel_rfl) ?_
        refine xm_done (by kernel_rfl) ?_
        refine xq_seq ?_
        refine xc_ret ?_
        rotate_left
        refine xm_take 7 (m' := 254) rfl (by kernel_rfl) Sb.a (rd_cast (v' := .bool true) (rd_eqb rfl rfl) (by rw [beq_self_eq_true])) rfl (by kernel_rfl) ?_
        refine xm_one 0 (m' := 255) rfl (by kernel_rfl) rfl (by kernel_rfl) (ef_rd (rd_loadB rfl Kn.o0 (by rfl)) ?_)
        refine ⟨Sb.a, ?_⟩
        refine xm_one 8 (m' := 511) rfl (by kernel_rfl) rfl (by kernel_rfl) (ef_storeB [_] _ rfl rfl (by first | rfl | assumption) rfl rfl rfl ?_)
        refine ⟨Sb.a, ?_⟩
        refine xm_take 9 (m' := 1023) rfl (by kernel_rfl) Sb.a (rd_assign rfl) rfl (by kernel_rfl) ?_
        refine xm_done (by kernel_rfl) ?_
        refine xq_seq ?_
        refine xc_ret ?_
        rotate_left
      all_goals exact xq_retB2 (.inl rfl) Try.results24 rfl rfl Kn.o1 rfl (List.sublist_append_right [_, _, _, _] _) ⟨y, N, mo2, rfl, hyw, hys, hyat, hok, rfl⟩
    · obtain ⟨b, hb⟩ : ∃ b, mayB w (getS l a.src) now = b := ⟨_, rfl⟩
      have era := fun (A : List Blk) => XF.into (w := w) (r := r) (mb := mb) (mo := mo) A L (φ := fun v y N => v = .tuple #[.agg (Rz.enc y).toArray, .bool b] ∧ y.w = w ∧ y.s = askL w l a.src now ∧ y.At W (N ++ L0)) ((xr_Ask (W := W) (L := A ++ rqB w r mb mo L) L0 (fun z hz => List.mem_append_right _ (hLq z hz)) x hat a.src now hso (by omega) (fun u hu => by have := hal u hu; omega) hla hn b (by rw [hxw, hxs]; exact hb)).mono fun v L' ⟨y, N, h1, h2, h3, h4, h5⟩ => ⟨y, N, ⟨h1, h2.trans hxw, by rw [h3, hxw, hxs], h4⟩, h5⟩)
      focus
        refine xc_seq ?_
        refine xc_region ?_
        refine xo_ef rfl (ef_box rfl fun r5 => ?_)
        refine xo_ef rfl (ef_box rfl fun r6 => ?_)
        refine xo_ef rfl (ef_alloc fun r8 => ?_)
        refine xo_rd (rd_assign rfl) rfl ?_
        refine xo_nil ?_
        refine xq_seq ?_
        refine xc_seq ?_
        refine xc_seq ?_
        refine xc_region ?_
        refine xo_rd (rd_fieldAddr rfl) rfl ?_
        refine xo_rd (rd_load1 rfl (Cl.o1 rfl)) rfl ?_
        refine xo_ef rfl (ef_call rfl (XF.mono (hpk _) ?_))
        rintro v L' ⟨rfl, rfl⟩
        refine xo_nil ?_
        refine xq_seq ?_
        refine xc_block ?_
        refine xc_seq ?_
        refine xc_seq ?_
        refine xc_region ?_
        refine xo_rd (rd_eql rfl rfl) rfl ?_
        refine xo_rd (rd_assign rfl) rfl ?_
        refine xo_nil ?_
        refine xq_seq ?_
        refine xc_condf rfl ?_
        refine xc_region ?_
        refine xo_rd (rd_eql rfl rfl) rfl ?_
        refine xo_rd (rd_assign rfl) rfl ?_
        refine xo_nil ?_
        refine xq_seq ?_
        refine xc_condf rfl ?_
        refine xc_seq ?_
        refine xc_region ?_
        refine xo_rd (rd_eql rfl rfl) rfl ?_
        refine xo_rd (rd_assign rfl) rfl ?_
        refine xo_nil ?_
        refine xq_seq ?_
        refine xc_condf rfl ?_
        refine xc_seq ?_
        refine xc_region ?_
        refine xo_rd (rd_eql rfl rfl) rfl ?_
        refine xo_rd (rd_assign rfl) rfl ?_
        refine xo_nil ?_
        refine xq_seq ?_
        refine xc_condf rfl ?_
        refine xc_skip ?_
        refine xq_block ?_
        refine xq_seq ?_
        refine xc_seq ?_
        refine xc_region ?_
        refine xo_rd (rd_loadB rfl Kn.o2 (by rfl)) rfl ?_
        refine xo_rd (rd_fieldAddr rfl) rfl ?_
        refine xo_rd (rd_load1 rfl (Cl.o1 rfl)) rfl ?_
        refine xo_rd (rd_move rfl) rfl ?_
        refine xo_ef rfl (ef_call rfl (XF.mono (era [(r8, Obj.cells (rzE 0 none 0 0).toArray 57 (0, 0)), (r6, Obj.cells a.enc.toArray 33 (0, 0)), (r5, Obj.cells x.enc.toArray 57 (0, 0))]) ?_))
        rintro v L' ⟨y, N, ⟨rfl, hyw, hys, hyat⟩, rfl⟩
        refine xo_rd (rd_move rfl) rfl ?_
        refine xo_rd (rd_extract rfl rfl) rfl ?_
        refine xo_rd (rd_extract rfl rfl) rfl ?_
        refine xo_ef rfl (ef_alloc fun r15 => ?_)
        refine xo_ef rfl (ef_storeB [] _ rfl rfl (by first | rfl | assumption) rfl rfl rfl ?_)
        refine xo_rd (rd_assign rfl) rfl ?_
        refine xo_nil ?_
        refine xq_seq ?_
      focus
        refine xc_seq ?_
        refine xc_drawM [0, 0, 0, 4, 0, 26, 0, 96, 33, 511] [0, 0, 0, 4, 0, 26, 0, 96, 33, 511] [] (by kernel_rfl) (by kernel_rfl) (by kernel_rfl) ?_
        refine xm_take 1 (m' := 2) rfl (by kernel_rfl) Sb.a (rd_move rfl) rfl (by kernel_rfl) ?_
        refine xm_take 2 (m' := 6) rfl (by kernel_rfl) Sb.a (rd_fieldAddr rfl) rfl (by kernel_rfl) ?_
        refine xm_take 4 (m' := 22) rfl (by kernel_rfl) Sb.a (rd_move rfl) rfl (by kernel_rfl) ?_
        refine xm_take 6 (m' := 86) rfl (by kernel_rfl) Sb.a (rd_move rfl) rfl (by kernel_rfl) ?_
        refine xm_two 0 3 (mi := 87) (mk := 94) rfl rfl (by kernel_rfl) rfl rfl (by kernel_rfl) (by kernel_rfl) (ef_rd (rd_loadB rfl Kn.o0 (by rfl)) ⟨Sb.a, ?_⟩) (ef_rd (rd_load1 rfl (Cl.o2 rfl)) ⟨Sb.a, ?_⟩)
        refine xm_one 3 (m' := 95) rfl (by kernel_rfl) rfl (by kernel_rfl) (ef_rd (rd_load1 rfl (Cl.o2 rfl)) ?_)
        refine ⟨Sb.a, ?_⟩
        refine xm_one 5 (m' := 127) rfl (by kernel_rfl) rfl (by kernel_rfl) (ef_call rfl (XF.mono (ask_A (L := N ++ L) [(r15, Obj.cells y.enc.toArray 57 (0, 0)), (r8, Obj.cells (rzE 0 none 0 0).toArray 57 (0, 0)), (r6, Obj.cells a.enc.toArray 33 (0, 0)), (r5, Obj.cells x.enc.toArray 57 (0, 0))] w r mb mo l hx a.src now (by omega) hn hgs h12 b hb) ?_))
        rintro v L' ⟨rfl, mo2, hok, rfl⟩
        refine ⟨Sb.a, ?_⟩
        refine xm_take 7 (m' := 255) rfl (by kernel_rfl) Sb.a (rd_cast (v' := .bool true) (rd_eqb rfl rfl) (by rw [beq_self_eq_true])) rfl (by kernel_rfl) ?_
        refine xm_one 8 (m' := 511) rfl (by kernel_rfl) rfl (by kernel_rfl) (ef_storeB [_] _ rfl rfl (by first | rfl | assumption) rfl rfl rfl ?_)
        refine ⟨Sb.a, ?_⟩
        refine xm_take 9 (m' := 1023) rfl (by kernel_rfl) Sb.a (rd_assign rfl) rfl (by kernel_rfl) ?_
        refine xm_done (by kernel_rfl) ?_
        refine xq_seq ?_
        refine xc_ret ?_
        rotate_left
        refine xm_two 0 5 (mi := 95) (mk := 126) rfl rfl (by kernel_rfl) rfl rfl (by kernel_rfl) (by kernel_rfl) (ef_rd (rd_loadB rfl Kn.o0 (by rfl)) ⟨Sb.a, ?_⟩) (ef_call rfl (XF.mono (ask_A (L := N ++ L) [(r15, Obj.cells y.enc.toArray 57 (0, 0)), (r8, Obj.cells (rzE 0 none 0 0).toArray 57 (0, 0)), (r6, Obj.cells a.enc.toArray 33 (0, 0)), (r5, Obj.cells x.enc.toArray 57 (0, 0))] w r mb mo l hx a.src now (by omega) hn hgs h12 b hb) ?_))
        rotate_left
        rintro v L' ⟨rfl, mo2, hok, rfl⟩
        refine ⟨Sb.a, ?_⟩
        rotate_right
        refine xm_one 5 (m' := 127) rfl (by kernel_rfl) rfl (by kernel_rfl) (ef_call rfl (XF.mono (ask_A (L := N ++ L) [(r15, Obj.cells y.enc.toArray 57 (0, 0)), (r8, Obj.cells (rzE 0 none 0 0).toArray 57 (0, 0)), (r6, Obj.cells a.enc.toArray 33 (0, 0)), (r5, Obj.cells x.enc.toArray 57 (0, 0))] w r mb mo l hx a.src now (by omega) hn hgs h12 b hb) ?_))
        rintro v L' ⟨rfl, mo2, hok, rfl⟩
        refine ⟨Sb.a, ?_⟩
        refine xm_take 7 (m' := 255) rfl (by kernel_rfl) Sb.a (rd_cast (v' := .bool true) (rd_eqb rfl rfl) (by rw [beq_self_eq_true])) rfl (by kernel_rfl) ?_
        refine xm_one 8 (m' := 511) rfl (by kernel_rfl) rfl (by kernel_rfl) (ef_storeB [_] _ rfl rfl (by first | rfl | assumption) rfl rfl rfl ?_)
        refine ⟨Sb.a, ?_⟩
        refine xm_take 9 (m' := 1023) rfl (by kernel_rfl) Sb.a (rd_assign rfl) rfl (by kernel_rfl) ?_
        refine xm_done (by kernel_rfl) ?_
        refine xq_seq ?_
        refine xc_ret ?_
        rotate_left
        refine xm_take 7 (m' := 254) rfl (by kernel_rfl) Sb.a (rd_cast (v' := .bool true) (rd_eqb rfl rfl) (by rw [beq_self_eq_true])) rfl (by kernel_rfl) ?_
        refine xm_one 0 (m' := 255) rfl (by kernel_rfl) rfl (by kernel_rfl) (ef_rd (rd_loadB rfl Kn.o0 (by rfl)) ?_)
        refine ⟨Sb.a, ?_⟩
        refine xm_one 8 (m' := 511) rfl (by kernel_rfl) rfl (by kernel_rfl) (ef_storeB [_] _ rfl rfl (by first | rfl | assumption) rfl rfl rfl ?_)
        refine ⟨Sb.a, ?_⟩
        refine xm_take 9 (m' := 1023) rfl (by kernel_rfl) Sb.a (rd_assign rfl) rfl (by kernel_rfl) ?_
        refine xm_done (by kernel_rfl) ?_
        refine xq_seq ?_
        refine xc_ret ?_
        rotate_left
      all_goals exact xq_retB2 (.inl rfl) Try.results24 rfl rfl Kn.o1 rfl (List.sublist_append_right [_, _, _, _] _) ⟨y, N, mo2, rfl, hyw, hys, hyat, hok, rfl⟩
    · obtain ⟨b, hb⟩ : ∃ b, mayB w (getS l a.src) now = b := ⟨_, rfl⟩
      have era := fun (A : List Blk) => XF.into (w := w) (r := r) (mb := mb) (mo := mo) A L (φ := fun v y N => v = .tuple #[.agg (Rz.enc y).toArray, .bool b] ∧ y.w = w ∧ y.s = askL w l a.src now ∧ y.At W (N ++ L0)) ((xr_Ask (W := W) (L := A ++ rqB w r mb mo L) L0 (fun z hz => List.mem_append_right _ (hLq z hz)) x hat a.src now hso (by omega) (fun u hu => by have := hal u hu; omega) hla hn b (by rw [hxw, hxs]; exact hb)).mono fun v L' ⟨y, N, h1, h2, h3, h4, h5⟩ => ⟨y, N, ⟨h1, h2.trans hxw, by rw [h3, hxw, hxs], h4⟩, h5⟩)
      focus
        refine xc_seq ?_
        refine xc_region ?_
        refine xo_ef rfl (ef_box rfl fun r5 => ?_)
        refine xo_ef rfl (ef_box rfl fun r6 => ?_)
        refine xo_ef rfl (ef_alloc fun r8 => ?_)
        refine xo_rd (rd_assign rfl) rfl ?_
        refine xo_nil ?_
        refine xq_seq ?_
        refine xc_seq ?_
        refine xc_seq ?_
        refine xc_region ?_
        refine xo_rd (rd_fieldAddr rfl) rfl ?_
        refine xo_rd (rd_load1 rfl (Cl.o1 rfl)) rfl ?_
        refine xo_ef rfl (ef_call rfl (XF.mono (hpk _) ?_))
        rintro v L' ⟨rfl, rfl⟩
        refine xo_nil ?_
        refine xq_seq ?_
        refine xc_block ?_
        refine xc_seq ?_
        refine xc_seq ?_
        refine xc_region ?_
        refine xo_rd (rd_eql rfl rfl) rfl ?_
        refine xo_rd (rd_assign rfl) rfl ?_
        refine xo_nil ?_
        refine xq_seq ?_
        refine xc_condf rfl ?_
        refine xc_region ?_
        refine xo_rd (rd_eql rfl rfl) rfl ?_
        refine xo_rd (rd_assign rfl) rfl ?_
        refine xo_nil ?_
        refine xq_seq ?_
        refine xc_condf rfl ?_
        refine xc_seq ?_
        refine xc_region ?_
        refine xo_rd (rd_eql rfl rfl) rfl ?_
        refine xo_rd (rd_assign rfl) rfl ?_
        refine xo_nil ?_
        refine xq_seq ?_
        refine xc_condf rfl ?_
        refine xc_seq ?_
        refine xc_region ?_
        refine xo_rd (rd_eql rfl rfl) rfl ?_
        refine xo_rd (rd_assign rfl) rfl ?_
        refine xo_nil ?_
        refine xq_seq ?_
        refine xc_condf rfl ?_
        refine xc_skip ?_
        refine xq_block ?_
        refine xq_seq ?_
        refine xc_seq ?_
        refine xc_region ?_
        refine xo_rd (rd_loadB rfl Kn.o2 (by rfl)) rfl ?_
        refine xo_rd (rd_fieldAddr rfl) rfl ?_
        refine xo_rd (rd_load1 rfl (Cl.o1 rfl)) rfl ?_
        refine xo_rd (rd_move rfl) rfl ?_
        refine xo_ef rfl (ef_call rfl (XF.mono (era [(r8, Obj.cells (rzE 0 none 0 0).toArray 57 (0, 0)), (r6, Obj.cells a.enc.toArray 33 (0, 0)), (r5, Obj.cells x.enc.toArray 57 (0, 0))]) ?_))
        rintro v L' ⟨y, N, ⟨rfl, hyw, hys, hyat⟩, rfl⟩
        refine xo_rd (rd_move rfl) rfl ?_
        refine xo_rd (rd_extract rfl rfl) rfl ?_
        refine xo_rd (rd_extract rfl rfl) rfl ?_
        refine xo_ef rfl (ef_alloc fun r15 => ?_)
        refine xo_ef rfl (ef_storeB [] _ rfl rfl (by first | rfl | assumption) rfl rfl rfl ?_)
        refine xo_rd (rd_assign rfl) rfl ?_
        refine xo_nil ?_
        refine xq_seq ?_
      focus
        refine xc_seq ?_
        refine xc_drawM [0, 0, 0, 4, 0, 26, 0, 96, 33, 511] [0, 0, 0, 4, 0, 26, 0, 96, 33, 511] [] (by kernel_rfl) (by kernel_rfl) (by kernel_rfl) ?_
        refine xm_take 1 (m' := 2) rfl (by kernel_rfl) Sb.a (rd_move rfl) rfl (by kernel_rfl) ?_
        refine xm_take 2 (m' := 6) rfl (by kernel_rfl) Sb.a (rd_fieldAddr rfl) rfl (by kernel_rfl) ?_
        refine xm_take 4 (m' := 22) rfl (by kernel_rfl) Sb.a (rd_move rfl) rfl (by kernel_rfl) ?_
        refine xm_take 6 (m' := 86) rfl (by kernel_rfl) Sb.a (rd_move rfl) rfl (by kernel_rfl) ?_
        refine xm_two 0 3 (mi := 87) (mk := 94) rfl rfl (by kernel_rfl) rfl rfl (by kernel_rfl) (by kernel_rfl) (ef_rd (rd_loadB rfl Kn.o0 (by rfl)) ⟨Sb.a, ?_⟩) (ef_rd (rd_load1 rfl (Cl.o2 rfl)) ⟨Sb.a, ?_⟩)
        refine xm_one 3 (m' := 95) rfl (by kernel_rfl) rfl (by kernel_rfl) (ef_rd (rd_load1 rfl (Cl.o2 rfl)) ?_)
        refine ⟨Sb.a, ?_⟩
        refine xm_one 5 (m' := 127) rfl (by kernel_rfl) rfl (by kernel_rfl) (ef_call rfl (XF.mono (ask_A (L := N ++ L) [(r15, Obj.cells y.enc.toArray 57 (0, 0)), (r8, Obj.cells (rzE 0 none 0 0).toArray 57 (0, 0)), (r6, Obj.cells a.enc.toArray 33 (0, 0)), (r5, Obj.cells x.enc.toArray 57 (0, 0))] w r mb mo l hx a.src now (by omega) hn hgs h12 b hb) ?_))
        rintro v L' ⟨rfl, mo2, hok, rfl⟩
        refine ⟨Sb.a, ?_⟩
        refine xm_take 7 (m' := 255) rfl (by kernel_rfl) Sb.a (rd_cast (v' := .bool true) (rd_eqb rfl rfl) (by rw [beq_self_eq_true])) rfl (by kernel_rfl) ?_
        refine xm_one 8 (m' := 511) rfl (by kernel_rfl) rfl (by kernel_rfl) (ef_storeB [_] _ rfl rfl (by first | rfl | assumption) rfl rfl rfl ?_)
        refine ⟨Sb.a, ?_⟩
        refine xm_take 9 (m' := 1023) rfl (by kernel_rfl) Sb.a (rd_assign rfl) rfl (by kernel_rfl) ?_
        refine xm_done (by kernel_rfl) ?_
        refine xq_seq ?_
        refine xc_ret ?_
        rotate_left
        refine xm_two 0 5 (mi := 95) (mk := 126) rfl rfl (by kernel_rfl) rfl rfl (by kernel_rfl) (by kernel_rfl) (ef_rd (rd_loadB rfl Kn.o0 (by rfl)) ⟨Sb.a, ?_⟩) (ef_call rfl (XF.mono (ask_A (L := N ++ L) [(r15, Obj.cells y.enc.toArray 57 (0, 0)), (r8, Obj.cells (rzE 0 none 0 0).toArray 57 (0, 0)), (r6, Obj.cells a.enc.toArray 33 (0, 0)), (r5, Obj.cells x.enc.toArray 57 (0, 0))] w r mb mo l hx a.src now (by omega) hn hgs h12 b hb) ?_))
        rotate_left
        rintro v L' ⟨rfl, mo2, hok, rfl⟩
        refine ⟨Sb.a, ?_⟩
        rotate_right
        refine xm_one 5 (m' := 127) rfl (by kernel_rfl) rfl (by kernel_rfl) (ef_call rfl (XF.mono (ask_A (L := N ++ L) [(r15, Obj.cells y.enc.toArray 57 (0, 0)), (r8, Obj.cells (rzE 0 none 0 0).toArray 57 (0, 0)), (r6, Obj.cells a.enc.toArray 33 (0, 0)), (r5, Obj.cells x.enc.toArray 57 (0, 0))] w r mb mo l hx a.src now (by omega) hn hgs h12 b hb) ?_))
        rintro v L' ⟨rfl, mo2, hok, rfl⟩
        refine ⟨Sb.a, ?_⟩
        refine xm_take 7 (m' := 255) rfl (by kernel_rfl) Sb.a (rd_cast (v' := .bool true) (rd_eqb rfl rfl) (by rw [beq_self_eq_true])) rfl (by kernel_rfl) ?_
        refine xm_one 8 (m' := 511) rfl (by kernel_rfl) rfl (by kernel_rfl) (ef_storeB [_] _ rfl rfl (by first | rfl | assumption) rfl rfl rfl ?_)
        refine ⟨Sb.a, ?_⟩
        refine xm_take 9 (m' := 1023) rfl (by kernel_rfl) Sb.a (rd_assign rfl) rfl (by kernel_rfl) ?_
        refine xm_done (by kernel_rfl) ?_
        refine xq_seq ?_
        refine xc_ret ?_
        rotate_left
        refine xm_take 7 (m' := 254) rfl (by kernel_rfl) Sb.a (rd_cast (v' := .bool true) (rd_eqb rfl rfl) (by rw [beq_self_eq_true])) rfl (by kernel_rfl) ?_
        refine xm_one 0 (m' := 255) rfl (by kernel_rfl) rfl (by kernel_rfl) (ef_rd (rd_loadB rfl Kn.o0 (by rfl)) ?_)
        refine ⟨Sb.a, ?_⟩
        refine xm_one 8 (m' := 511) rfl (by kernel_rfl) rfl (by kernel_rfl) (ef_storeB [_] _ rfl rfl (by first | rfl | assumption) rfl rfl rfl ?_)
        refine ⟨Sb.a, ?_⟩
        refine xm_take 9 (m' := 1023) rfl (by kernel_rfl) Sb.a (rd_assign rfl) rfl (by kernel_rfl) ?_
        refine xm_done (by kernel_rfl) ?_
        refine xq_seq ?_
        refine xc_ret ?_
        rotate_left
      all_goals exact xq_retB2 (.inl rfl) Try.results24 rfl rfl Kn.o1 rfl (List.sublist_append_right [_, _, _, _] _) ⟨y, N, mo2, rfl, hyw, hys, hyat, hok, rfl⟩
end Go.Proofs.Ytoolgphkfnkajaa.X
/-
  Chapter 23: does a requester know what the reference does: a walk of my own.
-/
namespace Go.Proofs.Ytoolgphkfnkajaa.X
open Go Go.RowKit
set_option linter.unusedVariables false
set_option linter.unusedSimpArgs false
theorem XF.aheadR {W : World} {f : FuncId} {args : Array Value} {n : Nat} {ns : List Int} {w : Int} {r mb : Nat} {mo : Obj} (A L : List Blk) (h : XF Try.prog W f args (rqB w r mb mo (A ++ L)) (fun v L' => ∃ p k l, v = .slice p n k ∧ SlQ 1 30 (.slice p n k) n (ints .u32 ns) l ∧ L' = l ++ rqB w r mb mo (A ++ L))) :
    XF Try.prog W f args (A ++ rqB w r mb mo L) (fun v L' => ∃ p k l, v = .slice p n k ∧ SlQ 1 30 (.slice p n k) n (ints .u32 ns) l ∧ L' = l ++ (A ++ rqB w r mb mo L)) :=
  (h.perm (rqB_front w r mb mo A L)).mapK fun v L' ⟨p, k, l, hv, hO, hL⟩ => ⟨_, hL ▸ ((rqB_front w r mb mo A L).symm.append_left l), p, k, l, hv, hO, rfl⟩
set_option maxHeartbeats 6400000 in
theorem xf_is {W : World} {L : List Blk} (w : Int) (r mb : Nat) (mo : Obj) (l : List Sr) (hx : RqOk w mo l) (x : Rz) (hat : x.At W L) (hxs : x.s = l) (hxw : x.w = w) (id : Int) (hwa : ∀ u, u ∈ x.l → u.wt = true → u.ask ≠ []) :
    XF Try.prog W 25 #[.pointer (some ⟨r, 0, none⟩), .agg x.enc.toArray, .int .u32 id] (rqB w r mb mo L) (fun v L' => v = .bool true ∧ L' = rqB w r mb mo L) := by
  have hso : (x.s.map Sr.id).Pairwise (· < ·) := hxs ▸ hx.so
  have hLq : ∀ z, z ∈ L → z ∈ rqB w r mb mo L := fun z hz => List.mem_cons_of_mem _ (List.mem_cons_of_mem _ hz)
  have hof := fun L' (h : ∀ z, z ∈ rqB w r mb mo L → z ∈ L') => xr_Of (W := W) (L := L') x (hat.mono fun z hz => h z (hLq z hz)) id
  obtain ⟨ho1, ho2⟩ := ofX_at hat id
  have hos : (ofX x.l id).s = getS l id := by rw [ofX_s, ← hxs]; rfl
  have hlast := fun L => xf_Last (W := W) (L := L) w r mb mo l hx id
  have hsent := fun L => xf_Sent (W := W) (L := L) w r mb mo l hx id
  rw [← hos] at hlast hsent
  have hdue := fun L => xf_Due (W := W) (L := L) w r mb mo l hx
  have hrdue := fun L' (h : ∀ z, z ∈ rqB w r mb mo L → z ∈ L') => xr_Due (W := W) (L := L') x (hat.mono fun z hz => h z (hLq z hz)) hso (hxw ▸ hx.w) (fun s hs => hx.la s (hxs ▸ hs)) hwa
  have hwx : waitX x.l = waitL l := by rw [waitX_eq, ← hxs]; rfl
  rw [hwx, hxs, hxw] at hrdue
  unfold dueR at hrdue
  have hwl : (waitL l).length ≤ 12 := by
    unfold waitL
    rw [List.length_map]
    exact Nat.le_trans (List.length_filter_le ..) hx.sm
  have hwt := fun L => xf_Waiting (W := W) (L := L) w r mb mo l hx
  have hrw := fun L' (h : ∀ z, z ∈ rqB w r mb mo L → z ∈ L') => xr_Waiting (W := W) (L := L') x (hat.mono fun z hz => h z (hLq z hz))
  rw [hwx] at hrw
  generalize (if waitL l = [] then (0 : Int) else dueF w l (waitL l)) = dv at *
  generalize decide (waitL l ≠ []) = db at *
  generalize ofX x.l id = u at *
  generalize waitL l = wl at *
  obtain ⟨uid, uask, uwt, up, uc⟩ := u
  change ∀ L, XF Try.prog W 13 _ _ (fun v L' => v = .tuple #[.int .u64 (lastA uask), .bool (decide (0 < (uask.length : Int)))] ∧ _) at hlast
  change ∀ L, XF Try.prog W 11 _ _ (fun v L' => v = .int .u64 (uask.length : Int) ∧ _) at hsent
  dsimp only at ho1 ho2
  refine xf_enter (args := [_, _, _]) Try.func25 rfl Try.ntmps25 rfl ?_
  have hL1 := fun (A : List Blk) => (hlast (A ++ L)).permK (rqB_front w r mb mo A L)
  have hS1 := fun (A : List Blk) => (hsent (A ++ L)).permK (rqB_front w r mb mo A L)
  have hD1 := fun (A : List Blk) => (hdue (A ++ L)).permK (rqB_front w r mb mo A L)
  focus
    refine xc_seq ?_
    refine xc_region ?_
    refine xo_ef rfl (ef_box rfl fun r4 => ?_)
    refine xo_rd (rd_assign rfl) rfl ?_
    refine xo_nil ?_
    refine xq_seq ?_
    refine xc_seq ?_
    refine xc_region ?_
    refine xo_rd (rd_loadB rfl Kn.o0 (by rfl)) rfl ?_
    refine xo_rd (rd_move rfl) rfl ?_
    refine xo_ef rfl (ef_call rfl (XF.mono (hof _ (by intro z hz; simp [hz])) ?_))
    rintro v L' ⟨rfl, rfl⟩
    refine xo_ef rfl (ef_alloc fun r7 => ?_)
    refine xo_ef rfl (ef_storeB [] _ rfl rfl (by first | rfl | assumption) rfl rfl rfl ?_)
    refine xo_nil ?_
    refine xq_seq ?_
    refine xc_seq ?_
    refine xc_region ?_
    refine xo_rd (rd_move rfl) rfl ?_
    refine xo_rd (rd_move rfl) rfl ?_
    refine xo_ef rfl (ef_call rfl (XF.mono (hL1 [_, _]) ?_))
    rintro v L' ⟨rfl, rfl⟩
    refine xo_rd (rd_move rfl) rfl ?_
    refine xo_rd (rd_extract rfl rfl) rfl ?_
    refine xo_rd (rd_extract rfl rfl) rfl ?_
    refine xo_rd (rd_assign rfl) rfl ?_
    refine xo_rd (rd_assign rfl) rfl ?_
    refine xo_nil ?_
    refine xq_seq ?_
    refine xc_seq ?_
    refine xc_region ?_
    refine xo_rd (rd_move rfl) rfl ?_
    refine xo_ef rfl (ef_call rfl (XF.mono (hD1 [_, _]) ?_))
    rintro v L' ⟨rfl, rfl⟩
    refine xo_rd (rd_move rfl) rfl ?_
    refine xo_rd (rd_extract rfl rfl) rfl ?_
    refine xo_rd (rd_extract rfl rfl) rfl ?_
    refine xo_rd (rd_assign rfl) rfl ?_
    refine xo_rd (rd_assign rfl) rfl ?_
    refine xo_nil ?_
    refine xq_seq ?_
    refine xc_seq ?_
    refine xc_region ?_
    refine xo_rd (rd_loadB rfl Kn.o1 (by rfl)) rfl ?_
    refine xo_ef rfl (ef_call rfl (XF.mono (hrdue _ (by intro z hz; simp [hz])) ?_))
    rintro v L' ⟨rfl, rfl⟩
    refine xo_rd (rd_move rfl) rfl ?_
    refine xo_rd (rd_extract rfl rfl) rfl ?_
    refine xo_rd (rd_extract rfl rfl) rfl ?_
    refine xo_rd (rd_assign rfl) rfl ?_
    refine xo_rd (rd_assign rfl) rfl ?_
    refine xo_nil ?_
    refine xq_seq ?_
  refine xc_join (ι := Unit) (fun _ => True) (fun _ => (r7, Obj.cells (rxE uid up uask.length uc uwt).toArray 76 (0, 0)) :: (r4, Obj.cells x.enc.toArray 57 (0, 0)) :: rqB w r mb mo L) (fun _ => [(0, .pointer (some ⟨r, 0, none⟩)), (4, .pointer (some ⟨r4, 0, none⟩))]) ?_ ?_
  · by_cases h0 : uask = []
    · subst h0
      have hl0 : lastA [] = 0 := rfl
      focus
        refine xc_seq ?_
        refine xc_drawM [0, 0, 2, 4, 8, 17, 32, 64, 192, 256, 256, 1280, 256, 4352, 8448, 16640, 35072, 65792, 131840, 262464, 524352, 1048832, 2097152, 6291456, 10485760, 16777216, 50331648, 85983232, 136314880, 285212672, 536870912, 536870912, 3758096384, 536870912, 9126805504, 17716740096, 34896609280, 73551314944, 137975824384, 279172874240, 549755813888, 549755813888, 3848290697216, 4947802324992, 9345848836096, 17592186044416, 17592186044416, 123145302310912, 158329674399744] [0, 0, 2, 4, 8, 17, 32, 64, 192, 256, 256, 1280, 256, 4352, 8448, 16640, 35072, 65792, 131840, 262464, 524352, 1048832, 2097152, 6291456, 10485760, 16777216, 50331648, 85983232, 136314880, 285212672, 536870912, 536870912, 3758096384, 536870912, 9126805504, 17716740096, 34896609280, 73551314944, 137975824384, 279172874240, 549755813888, 549755813888, 3848290697216, 4947802324992, 9345848836096, 17592186044416, 17592186044416, 123145302310912, 158329674399744] ((r7, Obj.cells (rxE uid up 0 uc uwt).toArray 76 (0, 0)) :: (r4, Obj.cells x.enc.toArray 57 (0, 0)) :: rqB w r mb mo L) (by kernel_rfl) (by kernel_rfl) (by kernel_rfl) ?_
        refine xm_take 0 (m' := 1) rfl (by kernel_rfl) Sb.a (rd_move rfl) rfl (by kernel_rfl) ?_
        refine xm_take 1 (m' := 3) rfl (by kernel_rfl) Sb.a (rd_fieldAddr rfl) rfl (by kernel_rfl) ?_
        refine xm_take 2 (m' := 7) rfl (by kernel_rfl) Sb.a (rd_load1 rfl (Cl.o0 rfl)) rfl (by kernel_rfl) ?_
        refine xm_take 3 (m' := 15) rfl (by kernel_rfl) Sb.a (rd_len rfl) rfl (by kernel_rfl) ?_
        refine xm_take 4 (m' := 31) rfl (by kernel_rfl) Sb.a (rd_gtr rfl rfl) rfl (by kernel_rfl) ?_
        refine xm_take 5 (m' := 63) rfl (by kernel_rfl) Sb.a (rd_neb rfl rfl) rfl (by kernel_rfl) ?_
        refine xm_take 6 (m' := 127) rfl (by kernel_rfl) Sb.a (rd_move rfl) rfl (by kernel_rfl) ?_
        refine xm_gtake 7 (m' := 255) rfl (by kernel_rfl) Sb.a rfl rfl (rd_move rfl) rfl (by kernel_rfl) ?_
        refine xm_gtake 8 (m' := 511) rfl (by kernel_rfl) Sb.a rfl rfl (rd_move rfl) rfl (by kernel_rfl) ?_
        refine xm_gskip 9 (m' := 1023) rfl (by kernel_rfl) Sb.a rfl rfl rfl rfl (by kernel_rfl) ?_
        refine xm_gskip 10 (m' := 2047) rfl (by kernel_rfl) Sb.a rfl rfl rfl rfl (by kernel_rfl) ?_
        refine xm_gskip 11 (m' := 4095) rfl (by kernel_rfl) Sb.a rfl rfl rfl rfl (by kernel_rfl) ?_
        refine xm_gskip 12 (m' := 8191) rfl (by kernel_rfl) Sb.a rfl rfl rfl rfl (by kernel_rfl) ?_
        refine xm_gskip 13 (m' := 16383) rfl (by kernel_rfl) Sb.a rfl rfl rfl rfl (by kernel_rfl) ?_
        refine xm_gskip 14 (m' := 32767) rfl (by kernel_rfl) Sb.a rfl rfl rfl rfl (by kernel_rfl) ?_
        refine xm_gskip 15 (m' := 65535) rfl (by kernel_rfl) Sb.a rfl rfl rfl rfl (by kernel_rfl) ?_
        refine xm_gskip 16 (m' := 131071) rfl (by kernel_rfl) Sb.a rfl rfl rfl rfl (by kernel_rfl) ?_
        refine xm_gskip 17 (m' := 262143) rfl (by kernel_rfl) Sb.a rfl rfl rfl rfl (by kernel_rfl) ?_
        refine xm_gskip 18 (m' := 524287) rfl (by kernel_rfl) Sb.a rfl rfl rfl rfl (by kernel_rfl) ?_
        refine xm_gtake 19 (m' := 1048575) rfl (by kernel_rfl) Sb.a rfl rfl (rd_pickf rfl rfl) rfl (by kernel_rfl) ?_
        refine xm_take 20 (m' := 2097151) rfl (by kernel_rfl) Sb.a (rd_pickf rfl rfl) rfl (by kernel_rfl) ?_
        refine xm_take 21 (m' := 4194303) rfl (by kernel_rfl) Sb.a (rd_move rfl) rfl (by kernel_rfl) ?_
        refine xm_gtake 22 (m' := 8388607) rfl (by kernel_rfl) Sb.a rfl rfl (rd_move rfl) rfl (by kernel_rfl) ?_
        refine xm_gtake 23 (m' := 16777215) rfl (by kernel_rfl) Sb.a rfl rfl (rd_not rfl) rfl (by kernel_rfl) ?_
        refine xm_gtake 24 (m' := 33554431) rfl (by kernel_rfl) Sb.a rfl rfl (rd_move rfl) rfl (by kernel_rfl) ?_
        refine xm_gtake 25 (m' := 67108863) rfl (by kernel_rfl) Sb.a rfl rfl (rd_move rfl) rfl (by kernel_rfl) ?_
        refine xm_gtake 26 (m' := 134217727) rfl (by kernel_rfl) Sb.a rfl rfl (rd_neq rfl rfl) rfl (by kernel_rfl) ?_
        refine xm_gtake 27 (m' := 268435455) rfl (by kernel_rfl) Sb.a rfl rfl (rd_pickt rfl rfl) rfl (by kernel_rfl) ?_
        refine xm_take 28 (m' := 536870911) rfl (by kernel_rfl) Sb.a (rd_pickf rfl rfl) rfl (by kernel_rfl) ?_
        refine xm_take 29 (m' := 1073741823) rfl (by kernel_rfl) Sb.a (rd_move rfl) rfl (by kernel_rfl) ?_
        refine xm_gtake 30 (m' := 2147483647) rfl (by kernel_rfl) Sb.a rfl rfl (rd_move rfl) rfl (by kernel_rfl) ?_
        refine xm_gtake 31 (m' := 4294967295) rfl (by kernel_rfl) Sb.a rfl rfl (rd_move rfl) rfl (by kernel_rfl) ?_
        refine xm_gtake 33 (m' := 12884901887) rfl (by kernel_rfl) Sb.a rfl rfl (rd_fieldAddr rfl) rfl (by kernel_rfl) ?_
        refine xm_gtake 34 (m' := 30064771071) rfl (by kernel_rfl) Sb.a rfl rfl (rd_load1 rfl (Cl.o0 rfl)) rfl (by kernel_rfl) ?_
        refine xm_gtake 35 (m' := 64424509439) rfl (by kernel_rfl) Sb.a rfl rfl (rd_len rfl) rfl (by kernel_rfl) ?_
        refine xm_gtake 36 (m' := 133143986175) rfl (by kernel_rfl) Sb.a rfl rfl (rd_convn rfl (by omega) (by omega)) rfl (by kernel_rfl) ?_
        refine xm_gone 32 (m' := 137438953471) rfl (by kernel_rfl) rfl rfl rfl (by kernel_rfl) (ef_call rfl (XF.mono (hS1 [_, _]) ?_))
        rintro v L' ⟨rfl, rfl⟩
        refine ⟨Sb.a, ?_⟩
        refine xm_gtake 37 (m' := 274877906943) rfl (by kernel_rfl) Sb.a rfl rfl (rd_neq rfl rfl) rfl (by kernel_rfl) ?_
        refine xm_take 38 (m' := 549755813887) rfl (by kernel_rfl) Sb.a (rd_pickf rfl rfl) rfl (by kernel_rfl) ?_
        refine xm_take 39 (m' := 1099511627775) rfl (by kernel_rfl) Sb.a (rd_move rfl) rfl (by kernel_rfl) ?_
        refine xm_gtake 40 (m' := 2199023255551) rfl (by kernel_rfl) Sb.a rfl rfl (rd_move rfl) rfl (by kernel_rfl) ?_
        refine xm_gtake 41 (m' := 4398046511103) rfl (by kernel_rfl) Sb.a rfl rfl (rd_move rfl) rfl (by kernel_rfl) ?_
        refine xm_gtake 42 (m' := 8796093022207) rfl (by kernel_rfl) Sb.a rfl rfl (rd_neq rfl rfl) rfl (by kernel_rfl) ?_
        refine xm_take 43 (m' := 17592186044415) rfl (by kernel_rfl) Sb.a (rd_pickf rfl rfl) rfl (by kernel_rfl) ?_
        refine xm_take 44 (m' := 35184372088831) rfl (by kernel_rfl) Sb.a (rd_move rfl) rfl (by kernel_rfl) ?_
        refine xm_ndec 80 rfl (fun h => absurd rfl h) (fun _ => ?_)
        refine xm_gtake 45 (m' := 70368744177663) rfl (by kernel_rfl) Sb.a rfl rfl (rd_move rfl) rfl (by kernel_rfl) ?_
        refine xm_gtake 46 (m' := 140737488355327) rfl (by kernel_rfl) Sb.a rfl rfl (rd_move rfl) rfl (by kernel_rfl) ?_
        refine xm_gtake 47 (m' := 281474976710655) rfl (by kernel_rfl) Sb.a rfl rfl (rd_cast (v' := .bool false) (rd_neb rfl rfl) (by rw [beq_self_eq_true]; rfl)) rfl (by kernel_rfl) ?_
        refine xm_take 48 (m' := 562949953421311) rfl (by kernel_rfl) Sb.a (rd_pickf rfl rfl) rfl (by kernel_rfl) ?_
        refine xm_done (by kernel_rfl) ?_
        refine xq_seq ?_
        refine xc_condf rfl ?_
        refine xc_skip ?_
      all_goals exact xq_joined () trivial rfl (by repeat (first | exact keep_nil | refine keep_cons rfl ?_))
    · have hp : 0 < uask.length := List.length_pos_iff.2 h0
      obtain ⟨b1, o1, hpb, hc⟩ := ho1.int (i := uask.length - 1) (by omega)
      have e1 : uask[uask.length - 1]'(by omega) = lastA uask := by unfold lastA; rw [List.getD_eq_getElem?_getD, List.getElem?_eq_getElem (by omega)]; rfl
      rw [e1] at hc
      have hc2 : ∀ L', (∀ z, z ∈ L → z ∈ L') → Cl W L' b1 (o1 + ((uask.length : Int) - 1).toNat * 1) (.int .u64 (lastA uask)) := fun L' h => by
        have : ((uask.length : Int) - 1).toNat = ((uask.length - 1 : Nat) : Int).toNat := by omega
        rw [this]; exact hc.mono h
      subst hpb
      generalize lastA uask = la at *
      focus
        refine xc_seq ?_
        refine xc_drawM [0, 0, 2, 4, 8, 17, 32, 64, 192, 256, 256, 1280, 256, 4352, 8448, 16640, 35072, 65792, 131840, 262464, 524352, 1048832, 2097152, 6291456, 10485760, 16777216, 50331648, 85983232, 136314880, 285212672, 536870912, 536870912, 3758096384, 536870912, 9126805504, 17716740096, 34896609280, 73551314944, 137975824384, 279172874240, 549755813888, 549755813888, 3848290697216, 4947802324992, 9345848836096, 17592186044416, 17592186044416, 123145302310912, 158329674399744] [0, 0, 2, 4, 8, 17, 32, 64, 192, 256, 256, 1280, 256, 4352, 8448, 16640, 35072, 65792, 131840, 262464, 524352, 1048832, 2097152, 6291456, 10485760, 16777216, 50331648, 85983232, 136314880, 285212672, 536870912, 536870912, 3758096384, 536870912, 9126805504, 17716740096, 34896609280, 73551314944, 137975824384, 279172874240, 549755813888, 549755813888, 3848290697216, 4947802324992, 9345848836096, 17592186044416, 17592186044416, 123145302310912, 158329674399744] ((r7, Obj.cells (rxE uid (some ⟨b1, o1, none⟩) uask.length uc uwt).toArray 76 (0, 0)) :: (r4, Obj.cells x.enc.toArray 57 (0, 0)) :: rqB w r mb mo L) (by kernel_rfl) (by kernel_rfl) (by kernel_rfl) ?_
        refine xm_take 0 (m' := 1) rfl (by kernel_rfl) Sb.a (rd_move rfl) rfl (by kernel_rfl) ?_
        refine xm_take 1 (m' := 3) rfl (by kernel_rfl) Sb.a (rd_fieldAddr rfl) rfl (by kernel_rfl) ?_
        refine xm_take 2 (m' := 7) rfl (by kernel_rfl) Sb.a (rd_load1 rfl (Cl.o0 rfl)) rfl (by kernel_rfl) ?_
        refine xm_take 3 (m' := 15) rfl (by kernel_rfl) Sb.a (rd_len rfl) rfl (by kernel_rfl) ?_
        refine xm_take 4 (m' := 31) rfl (by kernel_rfl) Sb.a (rd_gtr rfl rfl) rfl (by kernel_rfl) ?_
        refine xm_take 5 (m' := 63) rfl (by kernel_rfl) Sb.a (rd_cast (v' := .bool false) (rd_neb rfl rfl) (by rw [beq_self_eq_true]; rfl)) rfl (by kernel_rfl) ?_
        refine xm_take 6 (m' := 127) rfl (by kernel_rfl) Sb.a (rd_move rfl) rfl (by kernel_rfl) ?_
        refine xm_gtake 7 (m' := 255) rfl (by kernel_rfl) Sb.a rfl rfl (rd_move rfl) rfl (by kernel_rfl) ?_
        refine xm_gtake 8 (m' := 511) rfl (by kernel_rfl) Sb.a rfl rfl (rd_move rfl) rfl (by kernel_rfl) ?_
        refine xm_dec 44 rfl (fun h1 => ?_) (fun h1 => (by exfalso; omega))
        refine xm_gtake 9 (m' := 1023) rfl (by kernel_rfl) Sb.a rfl rfl (rd_move rfl) rfl (by kernel_rfl) ?_
        refine xm_gtake 10 (m' := 2047) rfl (by kernel_rfl) Sb.a rfl rfl (rd_fieldAddr rfl) rfl (by kernel_rfl) ?_
        refine xm_gtake 11 (m' := 4095) rfl (by kernel_rfl) Sb.a rfl rfl (rd_load1 rfl (Cl.o0 rfl)) rfl (by kernel_rfl) ?_
        refine xm_gtake 12 (m' := 8191) rfl (by kernel_rfl) Sb.a rfl rfl (rd_fieldAddr rfl) rfl (by kernel_rfl) ?_
        refine xm_gtake 13 (m' := 16383) rfl (by kernel_rfl) Sb.a rfl rfl (rd_load1 rfl (Cl.o0 rfl)) rfl (by kernel_rfl) ?_
        refine xm_gtake 14 (m' := 32767) rfl (by kernel_rfl) Sb.a rfl rfl (rd_len rfl) rfl (by kernel_rfl) ?_
        refine xm_gtake 15 (m' := 65535) rfl (by kernel_rfl) Sb.a rfl rfl (rd_subn rfl rfl (by omega) (by omega)) rfl (by kernel_rfl) ?_
        refine xm_gtake 16 (m' := 131071) rfl (by kernel_rfl) Sb.a rfl rfl (rd_indexAddr rfl rfl (by omega) (by omega)) rfl (by kernel_rfl) ?_
        refine xm_gtake 17 (m' := 262143) rfl (by kernel_rfl) Sb.a rfl rfl (rd_load1 rfl (hc2 _ (fun z hz => List.mem_cons_of_mem _ (List.mem_cons_of_mem _ (hLq z hz))))) rfl (by kernel_rfl) ?_
        refine xm_gtake 18 (m' := 524287) rfl (by kernel_rfl) Sb.a rfl rfl (rd_neq rfl rfl) rfl (by kernel_rfl) ?_
        refine xm_gtake 19 (m' := 1048575) rfl (by kernel_rfl) Sb.a rfl rfl (rd_pickt rfl rfl) rfl (by kernel_rfl) ?_
        refine xm_take 20 (m' := 2097151) rfl (by kernel_rfl) Sb.a (rd_pickf rfl rfl) rfl (by kernel_rfl) ?_
        refine xm_take 21 (m' := 4194303) rfl (by kernel_rfl) Sb.a (rd_move rfl) rfl (by kernel_rfl) ?_
        refine xm_ndec 57 rfl (fun h => absurd rfl h) (fun _ => ?_)
        refine xm_gtake 22 (m' := 8388607) rfl (by kernel_rfl) Sb.a rfl rfl (rd_move rfl) rfl (by kernel_rfl) ?_
        refine xm_gtake 23 (m' := 16777215) rfl (by kernel_rfl) Sb.a rfl rfl (rd_not rfl) rfl (by kernel_rfl) ?_
        refine xm_gtake 24 (m' := 33554431) rfl (by kernel_rfl) Sb.a rfl rfl (rd_move rfl) rfl (by kernel_rfl) ?_
        refine xm_ndec 60 rfl (fun h3 => (by exfalso; omega)) (fun h3 => ?_)
        refine xm_gskip 25 (m' := 67108863) rfl (by kernel_rfl) Sb.a rfl rfl rfl rfl (by kernel_rfl) ?_
        refine xm_gskip 26 (m' := 134217727) rfl (by kernel_rfl) Sb.a rfl rfl rfl rfl (by kernel_rfl) ?_
        refine xm_gtake 27 (m' := 268435455) rfl (by kernel_rfl) Sb.a rfl rfl (rd_pickf rfl rfl) rfl (by kernel_rfl) ?_
        refine xm_take 28 (m' := 536870911) rfl (by kernel_rfl) Sb.a (rd_pickf rfl rfl) rfl (by kernel_rfl) ?_
        refine xm_take 29 (m' := 1073741823) rfl (by kernel_rfl) Sb.a (rd_move rfl) rfl (by kernel_rfl) ?_
        refine xm_gtake 30 (m' := 2147483647) rfl (by kernel_rfl) Sb.a rfl rfl (rd_move rfl) rfl (by kernel_rfl) ?_
        refine xm_gtake 31 (m' := 4294967295) rfl (by kernel_rfl) Sb.a rfl rfl (rd_move rfl) rfl (by kernel_rfl) ?_
        refine xm_gtake 33 (m' := 12884901887) rfl (by kernel_rfl) Sb.a rfl rfl (rd_fieldAddr rfl) rfl (by kernel_rfl) ?_
        refine xm_gtake 34 (m' := 30064771071) rfl (by kernel_rfl) Sb.a rfl rfl (rd_load1 rfl (Cl.o0 rfl)) rfl (by kernel_rfl) ?_
        refine xm_gtake 35 (m' := 64424509439) rfl (by kernel_rfl) Sb.a rfl rfl (rd_len rfl) rfl (by kernel_rfl) ?_
        refine xm_gtake 36 (m' := 133143986175) rfl (by kernel_rfl) Sb.a rfl rfl (rd_convn rfl (by omega) (by omega)) rfl (by kernel_rfl) ?_
        refine xm_gone 32 (m' := 137438953471) rfl (by kernel_rfl) rfl rfl rfl (by kernel_rfl) (ef_call rfl (XF.mono (hS1 [_, _]) ?_))
        rintro v L' ⟨rfl, rfl⟩
        refine ⟨Sb.a, ?_⟩
        refine xm_gtake 37 (m' := 274877906943) rfl (by kernel_rfl) Sb.a rfl rfl (rd_neq rfl rfl) rfl (by kernel_rfl) ?_
        refine xm_take 38 (m' := 549755813887) rfl (by kernel_rfl) Sb.a (rd_pickf rfl rfl) rfl (by kernel_rfl) ?_
        refine xm_take 39 (m' := 1099511627775) rfl (by kernel_rfl) Sb.a (rd_move rfl) rfl (by kernel_rfl) ?_
        refine xm_ndec 75 rfl (fun h => absurd rfl h) (fun _ => ?_)
        refine xm_gtake 40 (m' := 2199023255551) rfl (by kernel_rfl) Sb.a rfl rfl (rd_move rfl) rfl (by kernel_rfl) ?_
        refine xm_gtake 41 (m' := 4398046511103) rfl (by kernel_rfl) Sb.a rfl rfl (rd_move rfl) rfl (by kernel_rfl) ?_
        refine xm_gtake 42 (m' := 8796093022207) rfl (by kernel_rfl) Sb.a rfl rfl (rd_neq rfl rfl) rfl (by kernel_rfl) ?_
        refine xm_take 43 (m' := 17592186044415) rfl (by kernel_rfl) Sb.a (rd_pickf rfl rfl) rfl (by kernel_rfl) ?_
        refine xm_take 44 (m' := 35184372088831) rfl (by kernel_rfl) Sb.a (rd_move rfl) rfl (by kernel_rfl) ?_
        refine xm_ndec 80 rfl (fun h => absurd rfl h) (fun _ => ?_)
        refine xm_gtake 45 (m' := 70368744177663) rfl (by kernel_rfl) Sb.a rfl rfl (rd_move rfl) rfl (by kernel_rfl) ?_
        refine xm_gtake 46 (m' := 140737488355327) rfl (by kernel_rfl) Sb.a rfl rfl (rd_move rfl) rfl (by kernel_rfl) ?_
        refine xm_gtake 47 (m' := 281474976710655) rfl (by kernel_rfl) Sb.a rfl rfl (rd_cast (v' := .bool false) (rd_neb rfl rfl) (by rw [beq_self_eq_true]; rfl)) rfl (by kernel_rfl) ?_
        refine xm_take 48 (m' := 562949953421311) rfl (by kernel_rfl) Sb.a (rd_pickf rfl rfl) rfl (by kernel_rfl) ?_
        refine xm_done (by kernel_rfl) ?_
        refine xq_seq ?_
        refine xc_condf rfl ?_
        refine xc_skip ?_
      all_goals exact xq_joined () trivial rfl (by repeat (first | exact keep_nil | refine keep_cons rfl ?_))
  rintro ⟨⟩ _
  clear hof hL1 hS1 hD1 hlast hsent hdue hrdue ho1 ho2 hos
  focus
    refine xc_seq ?_
    refine xc_seq ?_
    refine xc_region ?_
    refine xo_rd (rd_assign rfl) rfl ?_
    refine xo_nil ?_
    refine xq_seq ?_
    refine xc_block ?_
  refine xc_loopK (ι := Nat) (fun t => t ≤ 2) (fun t => 2 - t) (fun t => [(0, .pointer (some ⟨r, 0, none⟩)), (4, .pointer (some ⟨r4, 0, none⟩)), (14, .int .i64 t)]) 0 (Nat.zero_le _) (by repeat (first | exact keep_nil | refine keep_cons rfl ?_)) ?_
  intro t ht
  by_cases ht2 : t < 2
  case neg =>
    focus
      refine xc_seq ?_
      refine xc_seq ?_
      refine xc_region ?_
      refine xo_rd (rd_move rfl) rfl ?_
      refine xo_rd (rd_lss rfl rfl) rfl ?_
      refine xo_nil ?_
      refine xq_seq ?_
      refine xc_dec rfl (fun h1 => (by exfalso; omega)) (fun h1 => ?_)
      refine xc_exit ?_
      refine xq_then_exit ?_
      refine xq_then_exit ?_
      refine xq_block_hit ?_
      refine xq_seq ?_
      refine xc_seq ?_
      refine xc_region ?_
      refine xo_rd (rd_assign rfl) rfl ?_
      refine xo_nil ?_
      refine xq_seq ?_
      refine xc_ret ?_
    exact xq_sub (List.sublist_append_right [_, _] _) (xq_ret1 (.inl rfl) Try.results25 rfl ⟨rfl, rfl⟩)
  obtain ⟨B, hB⟩ : ∃ B, (r7, Obj.cells (rxE uid up uask.length uc uwt).toArray 76 (0, 0)) :: (r4, Obj.cells x.enc.toArray 57 (0, 0)) :: rqB w r mb mo L = B := ⟨_, rfl⟩
  have hW1 : XF Try.prog W 15 #[.pointer (some ⟨r, 0, none⟩)] B (fun v L' => ∃ p k l, v = .slice p wl.length k ∧ SlQ 1 30 (.slice p wl.length k) wl.length (ints .u32 wl) l ∧ L' = l ++ B) := hB ▸ XF.aheadR [(r7, Obj.cells (rxE uid up uask.length uc uwt).toArray 76 (0, 0)), (r4, Obj.cells x.enc.toArray 57 (0, 0))] L (hwt _)
  have hr4 : ∀ (L' : List Blk), (∀ z, z ∈ B → z ∈ L') → (r4, Obj.cells x.enc.toArray 57 (0, 0)) ∈ L' := fun L' h => h _ (hB ▸ List.mem_cons_of_mem _ List.mem_cons_self)
  have hrw2 := fun (L' : List Blk) (h : ∀ z, z ∈ B → z ∈ L') => hrw L' fun z hz => h z (hB ▸ List.mem_cons_of_mem _ (List.mem_cons_of_mem _ hz))
  rw [hB]
  focus
    refine xc_seq ?_
    refine xc_seq ?_
    refine xc_region ?_
    refine xo_rd (rd_move rfl) rfl ?_
    refine xo_rd (rd_lss rfl rfl) rfl ?_
    refine xo_nil ?_
    refine xq_seq ?_
    refine xc_dec rfl (fun h1 => ?_) (fun h1 => (by exfalso; omega))
    refine xc_skip ?_
    refine xq_seq ?_
    refine xc_seq ?_
    refine xc_block ?_
    refine xc_seq ?_
    refine xc_region ?_
    refine xo_rd (rd_move rfl) rfl ?_
    refine xo_ef rfl (ef_call rfl (XF.mono (hW1) ?_))
    rintro v L' ⟨p, kp, lo, rfl, hO, rfl⟩
    refine xo_rd (rd_assign rfl) rfl ?_
    refine xo_nil ?_
    refine xq_seq ?_
    refine xc_seq ?_
    refine xc_seq ?_
    refine xc_region ?_
    refine xo_rd (rd_move rfl) rfl ?_
    refine xo_rd (rd_loadA (vs := x.enc) rfl rfl (cl_sub (b := r4) (vs := x.enc) (T := 57) (fr := (0, 0)) 0 (hr4 _ (by intro z hz; simp [hz])) rfl)) rfl ?_
    refine xo_ef rfl (ef_call rfl (XF.mono (hrw2 _ (by intro z hz; simp [hz])) ?_))
    rintro v L' ⟨q, kq, lb, rfl, hOq, rfl⟩
    refine xo_ef rfl (ef_call rfl (XF.mono (xf_sameX p q wl.length wl.length kp kq wl wl rfl rfl (hO.rs (by intro z hz; simp [hz])) (hOq.rs (by intro z hz; simp [hz])) (by omega) rfl) ?_))
    rintro v L' ⟨rfl, rfl⟩
    refine xo_rd (rd_not rfl) rfl ?_
    refine xo_nil ?_
    refine xq_seq ?_
    refine xc_condf rfl ?_
    refine xc_skip ?_
    refine xq_seq ?_
    refine xc_seq ?_
    refine xc_region ?_
    refine xo_rd (rd_assign rfl) rfl ?_
    refine xo_nil ?_
    refine xq_seq ?_
    refine xc_block ?_
  refine xc_perm (L' := lo ++ (lb ++ B)) (List.perm_append_comm_assoc lb lo B) ?_
  refine xc_loopI (ι := SpS) (fun s => s.i ≤ wl.length ∧ s.xs.length = wl.length ∧ SlQ 1 30 (.slice p wl.length kp) wl.length (ints .u32 s.xs) s.l) (fun s => wl.length - s.i) (fun s => s.l ++ (lb ++ B)) (fun s => [(0, .pointer (some ⟨r, 0, none⟩)), (4, .pointer (some ⟨r4, 0, none⟩)), (14, .int .i64 t), (15, .slice p wl.length kp), (16, .int .i64 s.i)]) ⟨0, wl, lo⟩ ⟨Nat.zero_le _, rfl, hO⟩ rfl (by repeat (first | exact keep_nil | refine keep_cons rfl ?_)) ?_
  rintro ⟨i, xs, l4⟩ ⟨hi, hxl, hO4⟩
  dsimp only at hi hxl hO4 ⊢
  by_cases hin : i < wl.length
  · obtain ⟨b, o, hpb, hcb⟩ := (hO4.rsl (W := W) (R := lb ++ B)).int (i := i) (by omega)
    subst hpb
    focus
      refine xc_seq ?_
      refine xc_seq ?_
      refine xc_region ?_
      refine xo_rd (rd_move rfl) rfl ?_
      refine xo_rd (rd_move rfl) rfl ?_
      refine xo_rd (rd_len rfl) rfl ?_
      refine xo_rd (rd_lss rfl rfl) rfl ?_
      refine xo_nil ?_
      refine xq_seq ?_
      refine xc_dec rfl (fun hz1 => ?_) (fun hz1 => (by exfalso; omega))
      refine xc_skip ?_
      refine xq_seq ?_
      refine xc_seq ?_
      refine xc_block ?_
      refine xc_region ?_
      refine xo_rd (rd_move rfl) rfl ?_
      refine xo_rd (rd_move rfl) rfl ?_
      refine xo_rd (rd_indexAddr rfl rfl (by omega) (by omega)) rfl ?_
      refine xo_ef rfl (ef_storeQ1 [] (lb ++ B) i (v := .int .u32 99) hO4 rfl (by omega) rfl rfl rfl (by omega) rfl fun l5 hO5 => ?_)
      refine xo_nil ?_
      refine xq_block ?_
      refine xq_seq ?_
      refine xc_region ?_
      refine xo_rd (rd_move rfl) rfl ?_
      refine xo_rd (rd_addn rfl rfl (by omega) (by omega)) rfl ?_
      refine xo_rd (rd_assign rfl) rfl ?_
      refine xo_nil ?_
    exact xq_roundI (⟨i + 1, xs.set i 99, l5⟩ : SpS) ⟨by dsimp only; omega, by dsimp only; rw [List.length_set]; exact hxl, by dsimp only; rw [ints_set]; exact hO5⟩ (by dsimp only; omega) rfl (by repeat (first | exact keep_nil | refine keep_cons rfl ?_))
  · skip
    focus
      refine xc_seq ?_
      refine xc_seq ?_
      refine xc_region ?_
      refine xo_rd (rd_move rfl) rfl ?_
      refine xo_rd (rd_move rfl) rfl ?_
      refine xo_rd (rd_len rfl) rfl ?_
      refine xo_rd (rd_lss rfl rfl) rfl ?_
      refine xo_nil ?_
      refine xq_seq ?_
      refine xc_dec rfl (fun hz1 => (by exfalso; omega)) (fun hz1 => ?_)
      refine xc_exit ?_
      refine xq_then_exit ?_
      refine xq_then_exit ?_
      refine xq_block_hit ?_
      refine xq_block ?_
      refine xq_seq ?_
      refine xc_region ?_
      refine xo_rd (rd_move rfl) rfl ?_
      refine xo_rd (rd_addn rfl rfl (by omega) (by omega)) rfl ?_
      refine xo_rd (rd_assign rfl) rfl ?_
      refine xo_nil ?_
    exact xq_roundK rfl (t + 1) (by omega) (by omega) (hB ▸ (List.sublist_append_right lb B).trans (List.sublist_append_right l4 _)) (by repeat (first | exact keep_nil | refine keep_cons rfl ?_))
end Go.Proofs.Ytoolgphkfnkajaa.X
/-
  Chapter 23: whatever few sources are called for, a requester answers as the reference does: a walk of my own.
-/
namespace Go.Proofs.Ytoolgphkfnkajaa.X
open Go Go.RowKit
set_option linter.unusedVariables false
set_option linter.unusedSimpArgs false
structure PlI (l : List Sr) (t : Int) : Prop where
  id : ∀ s, s ∈ l → 0 ≤ s.id ∧ s.id ≤ 3
  se : ∀ s, s ∈ l → 0 ≤ s.sent ∧ s.sent ≤ t
  wt : ∀ s, s ∈ l → 0 < s.wt → 1 ≤ s.sent
theorem askS_pl {w now t : Int} {s : Sr} (h : 0 ≤ s.sent ∧ s.sent ≤ t) : (0 ≤ (askS w now s).sent ∧ (askS w now s).sent ≤ t + 1) ∧ (0 < (askS w now s).wt → 1 ≤ (askS w now s).sent) := by
  unfold askS
  split
  · exact ⟨⟨by dsimp only; omega, by dsimp only; omega⟩, fun h => by cases h⟩
  · rename_i hm
    refine ⟨⟨by dsimp only; omega, by dsimp only; omega⟩, fun _ => ?_⟩
    unfold mayB at hm
    simp only [Bool.or_eq_true, decide_eq_true_eq, not_or] at hm
    dsimp only
    omega
theorem PlI.askL {w now t : Int} {l : List Sr} (h : PlI l t) (ht : 0 ≤ t) (src : Int) (hs : 0 ≤ src ∧ src ≤ 3) : PlI (askL w l src now) (t + 1) := by
  have hg : 0 ≤ (getS l src).sent ∧ (getS l src).sent ≤ t := by
    cases hf : srF l src with
    | none => rw [getS_none hf]; exact ⟨Int.le_refl 0, ht⟩
    | some s => rw [getS_some hf]; exact h.se s (srF_id hf).1
  have hk := askS_pl (w := w) (now := now) hg
  refine ⟨fun s hm => ?_, fun s hm => ?_, fun s hm => ?_⟩
  all_goals rcases put_mem hm with rfl | hm
  · rw [askS_id, getS_id]; exact hs
  · exact h.id s hm
  · exact hk.1
  · have := h.se s hm; omega
  · exact hk.2
  · exact h.wt s hm
theorem PlI.doL {k w now t : Int} {l : List Sr} (h : PlI l t) (ht : 0 ≤ t) (src : Int) (hs : 0 ≤ src ∧ src ≤ 3) : PlI (doL k w l src now) (t + 1) := by
  unfold X.doL
  split
  · refine ⟨fun s hm => ?_, fun s hm => ?_, fun s hm => ?_⟩
    all_goals
      obtain ⟨y, hy, rfl⟩ := List.mem_map.1 hm
    · have := h.id y hy
      split
      · rw [askS_id]; exact this
      · exact this
    · have := h.se y hy
      split
      · exact (askS_pl this).1
      · omega
    · have := h.se y hy
      split
      · exact (askS_pl this).2
      · exact h.wt y hy
  split
  · refine ⟨fun s hm => ?_, fun s hm => ?_, fun s hm => ?_⟩
    all_goals
      obtain ⟨y, hy, rfl⟩ := List.mem_map.1 hm
    · have := h.id y hy
      split <;> exact this
    · have := h.se y hy
      split
      · unfold ansS; dsimp only; omega
      · omega
    · split
      · intro h2; cases h2
      · exact h.wt y hy
  split
  · exact ⟨fun s hm => h.id s (dropL_mem hm), fun s hm => by have := h.se s (dropL_mem hm); omega, fun s hm => h.wt s (dropL_mem hm)⟩
  · exact h.askL ht src hs
theorem PlI.len {l : List Sr} {t : Int} (h : PlI l t) (hp : (l.map Sr.id).Pairwise (· < ·)) : l.length ≤ 4 := by
  have h1 := nodup_le2 (m := [0, 1, 2, 3]) (hp.imp fun h => by omega) (fun x hx => by
    obtain ⟨s, hs, rfl⟩ := List.mem_map.1 hx
    have := h.id s hs
    have : s.id = 0 ∨ s.id = 1 ∨ s.id = 2 ∨ s.id = 3 := by omega
    simpa using this)
  rw [List.length_map] at h1
  exact h1
/-- Where the law stands. -/
structure PlS where
  i : Nat
  mo : Obj
  l : List Sr
  y : Rz
  now : Int
  g : List Blk
set_option maxHeartbeats 6400000 in
theorem plays1 {W : World} (w first : Int) (hw : 0 ≤ w ∧ w ≤ 18446744073709551615) (hf : 0 ≤ first ∧ first ≤ 18446744073709551615) (p : Option Addr) (n c : Nat) (xs : List Ac) (hx : xs.length = n) (hr : Rs W [] p (xs.flatMap Ac.enc)) (hn60 : n ≤ 60) (hE : ∀ x, x ∈ xs → (0 ≤ x.src ∧ x.src ≤ 3) ∧ 0 ≤ x.by' ∧ x.by' ≤ 65535) :
    XF Try.prog W 16 #[.int .u64 w, .int .u64 first, .slice p n c] [] (fun v L' => v = .bool true) := by
  refine xf_enter (args := [_, _, _]) Try.func16 rfl Try.ntmps16 rfl ?_
  by_cases hw0 : w = 0
  · subst hw0
    focus
      refine xc_seq ?_
      refine xc_region ?_
      refine xo_rd (rd_assign rfl) rfl ?_
      refine xo_nil ?_
      refine xq_seq ?_
      refine xc_seq ?_
      refine xc_seq ?_
      refine xc_region ?_
      refine xo_rd (rd_move rfl) rfl ?_
      refine xo_rd (rd_len rfl) rfl ?_
      refine xo_rd (rd_gtr rfl rfl) rfl ?_
      refine xo_nil ?_
      refine xq_seq ?_
      refine xc_dec rfl (fun h1 => (by exfalso; omega)) (fun h1 => ?_)
      refine xc_skip ?_
      refine xq_seq ?_
      refine xc_seq ?_
      refine xc_region ?_
      refine xo_rd (rd_move rfl) rfl ?_
      refine xo_ef rfl (ef_call rfl (XF.mono (xf_NewE) ?_))
      rintro v L' ⟨rfl, rfl⟩
      refine xo_rd (rd_move rfl) rfl ?_
      refine xo_rd (rd_extract rfl rfl) rfl ?_
      refine xo_rd (rd_extract rfl rfl) rfl ?_
      refine xo_rd (rd_assign rfl) rfl ?_
      refine xo_rd (rd_assign rfl) rfl ?_
      refine xo_nil ?_
      refine xq_seq ?_
      refine xc_seq ?_
      refine xc_region ?_
      refine xo_rd (rd_move rfl) rfl ?_
      refine xo_ef rfl (ef_call rfl (XF.mono (xr_NewE) ?_))
      rintro v L' ⟨rfl, rfl⟩
      refine xo_rd (rd_move rfl) rfl ?_
      refine xo_rd (rd_extract rfl rfl) rfl ?_
      refine xo_rd (rd_extract rfl rfl) rfl ?_
      refine xo_ef rfl (ef_alloc fun r9 => ?_)
      refine xo_ef rfl (ef_storeB [] _ rfl rfl (by first | rfl | assumption) rfl rfl rfl ?_)
      refine xo_rd (rd_assign rfl) rfl ?_
      refine xo_nil ?_
      refine xq_seq ?_
      refine xc_seq ?_
      refine xc_seq ?_
      refine xc_region ?_
      refine xo_rd (rd_move rfl) rfl ?_
      refine xo_rd (rd_move rfl) rfl ?_
      refine xo_rd (rd_neq rfl rfl) rfl ?_
      refine xo_rd (rd_move rfl) rfl ?_
      refine xo_grd rfl rfl (rd_move rfl) rfl ?_
      refine xo_grd rfl rfl (rd_eql rfl rfl) rfl ?_
      refine xo_grd rfl rfl (rd_move rfl) rfl ?_
      refine xo_grd rfl rfl (rd_nenil rfl) rfl ?_
      refine xo_grd rfl rfl (rd_neb rfl rfl) rfl ?_
      refine xo_rd (rd_pickf rfl rfl) rfl ?_
      refine xo_nil ?_
      refine xq_seq ?_
      refine xc_condf rfl ?_
      refine xc_skip ?_
      refine xq_seq ?_
      refine xc_seq ?_
      refine xc_seq ?_
      refine xc_region ?_
      refine xo_rd (rd_move rfl) rfl ?_
      refine xo_rd (rd_neq rfl rfl) rfl ?_
      refine xo_nil ?_
      refine xq_seq ?_
      refine xc_condt rfl ?_
      refine xc_seq ?_
      refine xc_region ?_
      refine xo_ef rfl (ef_call rfl (XF.mono (xf_works) ?_))
      rintro v L' ⟨rfl, rfl⟩
      refine xo_rd (rd_assign rfl) rfl ?_
      refine xo_nil ?_
      refine xq_seq ?_
      refine xc_ret ?_
      refine xq_then_ret ?_
    exact xq_ret1 (.inl rfl) Try.results16 rfl rfl
  have hw1 : 1 ≤ w ∧ w ≤ 18446744073709551615 := by omega
  focus
    refine xc_seq ?_
    refine xc_region ?_
    refine xo_rd (rd_assign rfl) rfl ?_
    refine xo_nil ?_
    refine xq_seq ?_
    refine xc_seq ?_
    refine xc_seq ?_
    refine xc_region ?_
    refine xo_rd (rd_move rfl) rfl ?_
    refine xo_rd (rd_len rfl) rfl ?_
    refine xo_rd (rd_gtr rfl rfl) rfl ?_
    refine xo_nil ?_
    refine xq_seq ?_
    refine xc_dec rfl (fun h1 => (by exfalso; omega)) (fun h1 => ?_)
    refine xc_skip ?_
    refine xq_seq ?_
    refine xc_seq ?_
    refine xc_region ?_
    refine xo_rd (rd_move rfl) rfl ?_
    refine xo_ef rfl (ef_call rfl (XF.mono (xf_New w hw1) ?_))
    rintro v L' ⟨r, mb, mo0, rfl, hok0, rfl⟩
    refine xo_rd (rd_move rfl) rfl ?_
    refine xo_rd (rd_extract rfl rfl) rfl ?_
    refine xo_rd (rd_extract rfl rfl) rfl ?_
    refine xo_rd (rd_assign rfl) rfl ?_
    refine xo_rd (rd_assign rfl) rfl ?_
    refine xo_nil ?_
    refine xq_seq ?_
    refine xc_seq ?_
    refine xc_region ?_
    refine xo_rd (rd_move rfl) rfl ?_
    refine xo_ef rfl (ef_call rfl (XF.mono (xr_New w hw1.1) ?_))
    rintro v L' ⟨rfl, rfl⟩
    refine xo_rd (rd_move rfl) rfl ?_
    refine xo_rd (rd_extract rfl rfl) rfl ?_
    refine xo_rd (rd_extract rfl rfl) rfl ?_
    refine xo_ef rfl (ef_alloc fun r9 => ?_)
    refine xo_ef rfl (ef_storeB [] _ rfl rfl (by first | rfl | assumption) rfl rfl rfl ?_)
    refine xo_rd (rd_assign rfl) rfl ?_
    refine xo_nil ?_
    refine xq_seq ?_
    refine xc_seq ?_
    refine xc_seq ?_
    refine xc_region ?_
    refine xo_rd (rd_move rfl) rfl ?_
    refine xo_rd (rd_move rfl) rfl ?_
    refine xo_rd (rd_neq rfl rfl) rfl ?_
    refine xo_rd (rd_move rfl) rfl ?_
    refine xo_grd rfl rfl (rd_move rfl) rfl ?_
    refine xo_grd rfl rfl (rd_eql rfl rfl) rfl ?_
    refine xo_grd rfl rfl (rd_move rfl) rfl ?_
    refine xo_grd rfl rfl (rd_nenil rfl) rfl ?_
    refine xo_grd rfl rfl (rd_neb rfl rfl) rfl ?_
    refine xo_rd (rd_pickf rfl rfl) rfl ?_
    refine xo_nil ?_
    refine xq_seq ?_
    refine xc_condf rfl ?_
    refine xc_skip ?_
    refine xq_seq ?_
    refine xc_seq ?_
    refine xc_seq ?_
    refine xc_region ?_
    refine xo_rd (rd_move rfl) rfl ?_
    refine xo_rd (rd_neq rfl rfl) rfl ?_
    refine xo_nil ?_
    refine xq_seq ?_
    refine xc_condf rfl ?_
    refine xc_skip ?_
    refine xq_seq ?_
    refine xc_seq ?_
    refine xc_region ?_
    refine xo_rd (rd_move rfl) rfl ?_
    refine xo_rd (rd_assign rfl) rfl ?_
    refine xo_nil ?_
    refine xq_seq ?_
    refine xc_seq ?_
    refine xc_seq ?_
    refine xc_region ?_
    refine xo_rd (rd_assign rfl) rfl ?_
    refine xo_nil ?_
    refine xq_seq ?_
    refine xc_block ?_
  refine xc_loopI (ι := PlS) (fun s => s.i ≤ n ∧ RqOk w s.mo s.l ∧ PlI s.l s.i ∧ s.y.s = s.l ∧ s.y.w = w ∧ s.y.At W s.g ∧ 0 ≤ s.now ∧ s.now ≤ 18446744073709551615) (fun s => n - s.i) (fun s => (r9, Obj.cells s.y.enc.toArray 57 (0, 0)) :: rqB w r mb s.mo s.g) (fun s => [(2, .slice p n c), (7, .pointer (some ⟨r, 0, none⟩)), (9, .pointer (some ⟨r9, 0, none⟩)), (11, .int .u64 s.now), (12, .int .i64 s.i)]) ⟨0, mo0, [], newRz w, first, []⟩ ⟨Nat.zero_le _, hok0, ⟨(fun s h => by cases h), (fun s h => by cases h), (fun s h => by cases h)⟩, rfl, rfl, newRz_at w, hf⟩ rfl (by repeat (first | exact keep_nil | refine keep_cons rfl ?_)) ?_
  clear hok0
  rintro ⟨i, mo, l, y, now, g⟩ ⟨hi, hok, hpl, hys, hyw, hyat, hnow⟩
  dsimp only at hi hok hpl hys hyw hyat hnow ⊢
  by_cases hin : i < n
  case neg =>
    focus
      refine xc_seq ?_
      refine xc_seq ?_
      refine xc_region ?_
      refine xo_rd (rd_move rfl) rfl ?_
      refine xo_rd (rd_move rfl) rfl ?_
      refine xo_rd (rd_len rfl) rfl ?_
      refine xo_rd (rd_lss rfl rfl) rfl ?_
      refine xo_nil ?_
      refine xq_seq ?_
      refine xc_dec rfl (fun h1 => (by exfalso; omega)) (fun h1 => ?_)
      refine xc_exit ?_
      refine xq_then_exit ?_
      refine xq_then_exit ?_
      refine xq_block_hit ?_
      refine xq_seq ?_
      refine xc_seq ?_
      refine xc_region ?_
      refine xo_ef rfl (ef_call rfl (XF.mono (xf_works) ?_))
      rintro v L' ⟨rfl, rfl⟩
      refine xo_rd (rd_assign rfl) rfl ?_
      refine xo_nil ?_
      refine xq_seq ?_
      refine xc_ret ?_
    exact xq_ret1 (.inl rfl) Try.results16 rfl rfl
  obtain ⟨b, o, hp, hc⟩ := hr.rows Ac.len (by decide) (by omega)
  subst hp
  have hca := hc i (by omega)
  obtain ⟨hsr, hby⟩ := hE xs[i] (List.getElem_mem _)
  generalize xs[i] = a at *
  have hcA : ∀ L' (j : Nat) (u : Value), a.enc[j]? = some u → Cl W L' b (o + (i : Int).toNat * 3 + j) u := fun L' j u hj => (hca j u hj).mono fun z h => by cases h
  focus
    refine xc_seq ?_
    refine xc_seq ?_
    refine xc_region ?_
    refine xo_rd (rd_move rfl) rfl ?_
    refine xo_rd (rd_move rfl) rfl ?_
    refine xo_rd (rd_len rfl) rfl ?_
    refine xo_rd (rd_lss rfl rfl) rfl ?_
    refine xo_nil ?_
    refine xq_seq ?_
    refine xc_dec rfl (fun h1 => ?_) (fun h1 => (by exfalso; omega))
    refine xc_skip ?_
    refine xq_seq ?_
    refine xc_seq ?_
    refine xc_block ?_
    refine xc_seq ?_
    refine xc_region ?_
    refine xo_rd (rd_move rfl) rfl ?_
    refine xo_rd (rd_move rfl) rfl ?_
    refine xo_rd (rd_move rfl) rfl ?_
    refine xo_rd (rd_indexAddr rfl rfl (by omega) (by omega)) rfl ?_
    refine xo_rd (rd_fieldAddr rfl) rfl ?_
    refine xo_rd (rd_load1 rfl (hcA _ 2 _ rfl)) rfl ?_
    refine xo_rd (rd_convn rfl (by omega) (by omega)) rfl ?_
    refine xo_rd (rd_add rfl rfl) rfl ?_
    refine xo_rd (rd_assign rfl) rfl ?_
    refine xo_nil ?_
    refine xq_seq ?_
  obtain ⟨now2, hnow2⟩ : ∃ z, IntKind.u64.wrap (now + a.by') = z := ⟨_, rfl⟩
  rw [hnow2]
  have hb2 : 0 ≤ now2 ∧ now2 ≤ 18446744073709551615 := by rw [← hnow2, wrap_u64]; omega
  obtain ⟨k, hk⟩ : ∃ k, (a.d.tmod 7 + 7) % 7 = k := ⟨_, rfl⟩
  have hus : ∀ u, u ∈ y.l → u.s ∈ l := fun u hu => hys ▸ List.mem_map_of_mem hu
  have hal : ∀ u, u ∈ y.l → u.ask.length < 900 := fun u hu => by
    have := (hpl.se u.s (hus u hu)).2
    have h3 : u.s.sent = u.ask.length := rfl
    omega
  have h12 : (askL w l a.src now2).length ≤ 12 := Nat.le_trans ((hpl.askL (w := w) (now := now2) (by omega) a.src hsr).len (put_sorted hok.so)) (by decide)
  have hse : ∀ s, s ∈ l → s.sent < big := fun s hs => by have := hpl.se s hs; unfold big; omega
  have hpl2 := hpl.doL (k := k) (w := w) (now := now2) (by omega) a.src hsr
  have hdp : ∀ A : List Blk, XF Try.prog W 24 #[.pointer (some ⟨r, 0, none⟩), .agg y.enc.toArray, .agg a.enc.toArray, .int .u64 now2] (A ++ rqB w r mb mo g) (fun v L' => ∃ y2 N mo2, v = .tuple #[.agg (Rz.enc y2).toArray, .bool true] ∧ y2.w = w ∧ y2.s = doL k w l a.src now2 ∧ y2.At W (N ++ g) ∧ RqOk w mo2 (doL k w l a.src now2) ∧ L' = A ++ rqB w r mb mo2 (N ++ g)) := fun A =>
    ((xf_does (W := W) (L := A ++ g) w r mb mo l hok g (fun z hz => List.mem_append_right _ hz) y hyat hys hyw a (by omega) now2 k hb2 hk h12 hse hal).perm (rqB_front w r mb mo A g)).mapK fun v L' ⟨y2, N, mo2, h1, h2, h3, h4, h5, h6⟩ => ⟨_, by
      rw [h6]
      refine List.Perm.trans ?_ (rqB_front w r mb mo2 A (N ++ g)).symm
      unfold rqB
      exact ((List.perm_append_comm_assoc N A g).cons _).cons _, y2, N, mo2, h1, h2, h3, h4, h5, rfl⟩
  generalize doL k w l a.src now2 = z at *
  refine xc_join (ι := (Nat × Rz) × (Obj × List Blk)) (fun s => s.1.2.w = w ∧ s.1.2.s = z ∧ s.1.2.At W (s.2.2 ++ g) ∧ RqOk w s.2.1 z) (fun s => (s.1.1, Obj.cells s.1.2.enc.toArray 57 (0, 0)) :: (r9, Obj.cells y.enc.toArray 57 (0, 0)) :: rqB w r mb s.2.1 (s.2.2 ++ g)) (fun s => [(2, .slice (some ⟨b, o, none⟩) n c), (7, .pointer (some ⟨r, 0, none⟩)), (9, .pointer (some ⟨r9, 0, none⟩)), (11, .int .u64 now2), (12, .int .i64 i), (13, .pointer (some ⟨s.1.1, 0, none⟩)), (14, .bool true)]) ?_ ?_
  · skip
    focus
      refine xc_drawM [0, 0, 0, 0, 12, 16, 0, 99, 128, 256, 256, 0, 3071, 8191] [0, 0, 0, 0, 12, 16, 0, 99, 128, 256, 256, 0, 3071, 8191] [] (by kernel_rfl) (by kernel_rfl) (by kernel_rfl) ?_
      refine xm_take 0 (m' := 1) rfl (by kernel_rfl) Sb.a (rd_move rfl) rfl (by kernel_rfl) ?_
      refine xm_take 2 (m' := 5) rfl (by kernel_rfl) Sb.a (rd_move rfl) rfl (by kernel_rfl) ?_
      refine xm_take 3 (m' := 13) rfl (by kernel_rfl) Sb.a (rd_move rfl) rfl (by kernel_rfl) ?_
      refine xm_take 4 (m' := 29) rfl (by kernel_rfl) Sb.a (rd_indexAddr rfl rfl (by omega) (by omega)) rfl (by kernel_rfl) ?_
      refine xm_take 5 (m' := 61) rfl (by kernel_rfl) Sb.a (rd_loadA (vs := a.enc) rfl rfl (hcA _)) rfl (by kernel_rfl) ?_
      refine xm_take 6 (m' := 125) rfl (by kernel_rfl) Sb.a (rd_move rfl) rfl (by kernel_rfl) ?_
      refine xm_two 1 11 (mi := 127) (mk := 2173) rfl rfl (by kernel_rfl) rfl rfl (by kernel_rfl) (by kernel_rfl) (ef_rd (rd_loadB rfl Kn.o0 (by rfl)) ⟨Sb.a, ?_⟩) (ef_alloc fun r13 => ⟨Sb.a, ?_⟩)
      refine xm_two 7 11 (mi := 255) (mk := 2175) rfl rfl (by kernel_rfl) rfl rfl (by kernel_rfl) (by kernel_rfl) (ef_call rfl (XF.mono (hdp [_]) ?_)) (ef_alloc fun r13 => ⟨Sb.a, ?_⟩)
      rotate_left
      rotate_right
      rintro v L' ⟨y2, N, mo2, rfl, hy2w, hy2s, hy2at, hok2, rfl⟩
      refine ⟨Sb.a, ?_⟩
      refine xm_take 8 (m' := 511) rfl (by kernel_rfl) Sb.a (rd_move rfl) rfl (by kernel_rfl) ?_
      refine xm_take 9 (m' := 1023) rfl (by kernel_rfl) Sb.a (rd_extract rfl rfl) rfl (by kernel_rfl) ?_
      refine xm_take 10 (m' := 2047) rfl (by kernel_rfl) Sb.a (rd_extract rfl rfl) rfl (by kernel_rfl) ?_
      refine xm_one 11 (m' := 4095) rfl (by kernel_rfl) rfl (by kernel_rfl) (ef_alloc fun r13 => ?_)
      refine ⟨Sb.a, ?_⟩
      refine xm_one 12 (m' := 8191) rfl (by kernel_rfl) rfl (by kernel_rfl) (ef_storeB [] _ rfl rfl (by first | rfl | assumption) rfl rfl rfl ?_)
      refine ⟨Sb.a, ?_⟩
      refine xm_take 13 (m' := 16383) rfl (by kernel_rfl) Sb.a (rd_assign rfl) rfl (by kernel_rfl) ?_
      refine xm_done (by kernel_rfl) ?_
      rotate_left
      refine xm_one 7 (m' := 2303) rfl (by kernel_rfl) rfl (by kernel_rfl) (ef_call rfl (XF.mono (hdp [_, _]) ?_))
      rintro v L' ⟨y2, N, mo2, rfl, hy2w, hy2s, hy2at, hok2, rfl⟩
      refine ⟨Sb.a, ?_⟩
      refine xm_take 8 (m' := 2559) rfl (by kernel_rfl) Sb.a (rd_move rfl) rfl (by kernel_rfl) ?_
      refine xm_take 9 (m' := 3071) rfl (by kernel_rfl) Sb.a (rd_extract rfl rfl) rfl (by kernel_rfl) ?_
      refine xm_take 10 (m' := 4095) rfl (by kernel_rfl) Sb.a (rd_extract rfl rfl) rfl (by kernel_rfl) ?_
      refine xm_one 12 (m' := 8191) rfl (by kernel_rfl) rfl (by kernel_rfl) (ef_storeB [] _ rfl rfl (by first | rfl | assumption) rfl rfl rfl ?_)
      refine ⟨Sb.a, ?_⟩
      refine xm_take 13 (m' := 16383) rfl (by kernel_rfl) Sb.a (rd_assign rfl) rfl (by kernel_rfl) ?_
      refine xm_done (by kernel_rfl) ?_
      rotate_left
      refine xm_one 1 (m' := 2175) rfl (by kernel_rfl) rfl (by kernel_rfl) (ef_rd (rd_loadB rfl Kn.o1 (by rfl)) ?_)
      refine ⟨Sb.a, ?_⟩
      refine xm_one 7 (m' := 2303) rfl (by kernel_rfl) rfl (by kernel_rfl) (ef_call rfl (XF.mono (hdp [_, _]) ?_))
      rintro v L' ⟨y2, N, mo2, rfl, hy2w, hy2s, hy2at, hok2, rfl⟩
      refine ⟨Sb.a, ?_⟩
      refine xm_take 8 (m' := 2559) rfl (by kernel_rfl) Sb.a (rd_move rfl) rfl (by kernel_rfl) ?_
      refine xm_take 9 (m' := 3071) rfl (by kernel_rfl) Sb.a (rd_extract rfl rfl) rfl (by kernel_rfl) ?_
      refine xm_take 10 (m' := 4095) rfl (by kernel_rfl) Sb.a (rd_extract rfl rfl) rfl (by kernel_rfl) ?_
      refine xm_one 12 (m' := 8191) rfl (by kernel_rfl) rfl (by kernel_rfl) (ef_storeB [] _ rfl rfl (by first | rfl | assumption) rfl rfl rfl ?_)
      refine ⟨Sb.a, ?_⟩
      refine xm_take 13 (m' := 16383) rfl (by kernel_rfl) Sb.a (rd_assign rfl) rfl (by kernel_rfl) ?_
      refine xm_done (by kernel_rfl) ?_
      rotate_left
    all_goals exact xq_joined ((_, y2), (mo2, N)) ⟨hy2w, hy2s, hy2at, hok2⟩ rfl (by repeat (first | exact keep_nil | refine keep_cons rfl ?_))
  rintro ⟨⟨r13, y2⟩, ⟨mo2, N⟩⟩ ⟨hy2w, hy2s, hy2at, hok2⟩
  dsimp only at hy2w hy2s hy2at hok2 ⊢
  have hwa : ∀ u, u ∈ y2.l → u.wt = true → u.ask ≠ [] := fun u hu hw2 h0 => by
    have hm : u.s ∈ z := hy2s ▸ List.mem_map_of_mem hu
    have h1 := hpl2.wt u.s hm (by unfold Rx.s; dsimp only; rw [hw2]; decide)
    have h3 : u.s.sent = u.ask.length := rfl
    rw [h0] at h3
    rw [h3] at h1
    exact absurd h1 (by decide)
  have his := (xf_is (W := W) (L := [(r13, Obj.cells y2.enc.toArray 57 (0, 0)), (r9, Obj.cells y2.enc.toArray 57 (0, 0))] ++ (N ++ g)) w r mb mo2 z hok2 y2 (hy2at.mono fun u hu => List.mem_append_right [_, _] hu) hy2s hy2w a.src hwa).permK (rqB_front w r mb mo2 [_, _] (N ++ g))
  focus
    refine xc_seq ?_
    refine xc_region ?_
    refine xo_rd (rd_loadB rfl Kn.o0 (by rfl)) rfl ?_
    refine xo_ef rfl (ef_storeB [_] _ rfl rfl (by first | rfl | assumption) rfl rfl rfl ?_)
    refine xo_nil ?_
    refine xq_seq ?_
  focus
    refine xc_seq ?_
    refine xc_drawM [0, 1, 2, 4, 4, 4, 4, 100, 132, 260, 540, 1028, 2052] [0, 1, 2, 4, 4, 4, 4, 100, 132, 260, 540, 1028, 2052] ((r13, Obj.cells y2.enc.toArray 57 (0, 0)) :: (r9, Obj.cells y2.enc.toArray 57 (0, 0)) :: rqB w r mb mo2 (N ++ g)) (by kernel_rfl) (by kernel_rfl) (by kernel_rfl) ?_
    refine xm_take 0 (m' := 1) rfl (by kernel_rfl) Sb.a (rd_move rfl) rfl (by kernel_rfl) ?_
    refine xm_take 1 (m' := 3) rfl (by kernel_rfl) Sb.a (rd_not rfl) rfl (by kernel_rfl) ?_
    refine xm_take 2 (m' := 7) rfl (by kernel_rfl) Sb.a (rd_move rfl) rfl (by kernel_rfl) ?_
    refine xm_gtake 3 (m' := 15) rfl (by kernel_rfl) Sb.a rfl rfl (rd_move rfl) rfl (by kernel_rfl) ?_
    refine xm_gtake 4 (m' := 31) rfl (by kernel_rfl) Sb.a rfl rfl (rd_loadB rfl Kn.o1 (by rfl)) rfl (by kernel_rfl) ?_
    refine xm_gtake 5 (m' := 63) rfl (by kernel_rfl) Sb.a rfl rfl (rd_move rfl) rfl (by kernel_rfl) ?_
    refine xm_gtake 6 (m' := 127) rfl (by kernel_rfl) Sb.a rfl rfl (rd_move rfl) rfl (by kernel_rfl) ?_
    refine xm_gtake 7 (m' := 255) rfl (by kernel_rfl) Sb.a rfl rfl (rd_indexAddr rfl rfl (by omega) (by omega)) rfl (by kernel_rfl) ?_
    refine xm_gtake 8 (m' := 511) rfl (by kernel_rfl) Sb.a rfl rfl (rd_fieldAddr rfl) rfl (by kernel_rfl) ?_
    refine xm_gtake 9 (m' := 1023) rfl (by kernel_rfl) Sb.a rfl rfl (rd_load1 rfl (hcA _ 1 _ rfl)) rfl (by kernel_rfl) ?_
    refine xm_gone 10 (m' := 2047) rfl (by kernel_rfl) rfl rfl rfl (by kernel_rfl) (ef_call rfl (XF.mono (his) ?_))
    rintro v L' ⟨rfl, rfl⟩
    refine ⟨Sb.a, ?_⟩
    refine xm_gtake 11 (m' := 4095) rfl (by kernel_rfl) Sb.a rfl rfl (rd_not rfl) rfl (by kernel_rfl) ?_
    refine xm_take 12 (m' := 8191) rfl (by kernel_rfl) Sb.a (rd_pickf rfl rfl) rfl (by kernel_rfl) ?_
    refine xm_done (by kernel_rfl) ?_
    refine xq_seq ?_
    refine xc_condf rfl ?_
    refine xc_skip ?_
    refine xq_block ?_
    refine xq_seq ?_
    refine xc_region ?_
    refine xo_rd (rd_move rfl) rfl ?_
    refine xo_rd (rd_addn rfl rfl (by omega) (by omega)) rfl ?_
    refine xo_rd (rd_assign rfl) rfl ?_
    refine xo_nil ?_
  all_goals exact xq_sub (List.sublist_cons_self _ _) (xq_roundI (⟨i + 1, mo2, z, y2, now2, N ++ g⟩ : PlS) ⟨by dsimp only; omega, hok2, by dsimp only; exact hpl2, hy2s, hy2w, hy2at, hb2⟩ (by dsimp only; omega) rfl (by repeat (first | exact keep_nil | refine keep_cons rfl ?_)))
end Go.Proofs.Ytoolgphkfnkajaa.X
