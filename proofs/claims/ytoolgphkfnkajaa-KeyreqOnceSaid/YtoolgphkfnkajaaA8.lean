/-
  Chapter 23: those for which something holds; who waits; a tick: walks of my own.
-/
import Derived.Test.YtoolgphkfnkajaaA7
namespace Go.Proofs.Ytoolgphkfnkajaa.X
open Go Go.RowKit
set_option linter.unusedVariables false
set_option linter.unusedSimpArgs false
def z0 : Value := .agg (sEnc 0 0 0).toArray
theorem xf_29 {W : World} {L : List Blk} (FN : Nat) [hC : Cf Try.prog FN] (cap : List Value) (id : Int) (q q2 r mb : Nat) (mo : Obj) (f : Int → Option Value) (sz : Nat) (hm : MpIs .u32 mo f sz) (h1 : Cl W L q 0 (.func (.func FN) #[] cap.toArray)) (h2 : Cl W L q2 0 (.pointer (some ⟨r, 0, none⟩))) (hr : Cl W L r 1 (.map (some mb))) (hk : Kn W L mb mo) (b : Bool)
    (hf : XF Try.prog W FN ([] ++ [(f id).getD z0] ++ cap).toArray L (fun v L' => v = .bool b ∧ L' = L)) : XF Try.prog W 29 #[.int .u32 id, .pointer (some ⟨q, 0, none⟩), .pointer (some ⟨q2, 0, none⟩)] L (fun v L' => v = .bool (!b) ∧ L' = L) := by
  refine xf_enter (args := [_, _, _]) Try.func29 rfl Try.ntmps29 rfl ?_
  focus
    refine xc_seq ?_
    refine xc_region ?_
    refine xo_rd (rd_assign rfl) rfl ?_
    refine xo_nil ?_
    refine xq_seq ?_
    refine xc_seq ?_
    refine xc_drawML [0, 0, 2, 4, 8, 0, 48, 65, 128, 511] [0, 0, 2, 4, 8, 0, 48, 65, 128, 511] (by kernel_rfl) (by kernel_rfl) (by kernel_rfl) ?_
    refine xm_take 0 (m' := 1) rfl (by kernel_rfl) Sb.a (rd_load1 rfl h1) rfl (by kernel_rfl) ?_
    refine xm_take 1 (m' := 3) rfl (by kernel_rfl) Sb.a (rd_load1 rfl h2) rfl (by kernel_rfl) ?_
    refine xm_take 2 (m' := 7) rfl (by kernel_rfl) Sb.a (rd_nilCheck rfl) rfl (by kernel_rfl) ?_
    refine xm_take 3 (m' := 15) rfl (by kernel_rfl) Sb.a (rd_fieldAddr rfl) rfl (by kernel_rfl) ?_
    refine xm_take 4 (m' := 31) rfl (by kernel_rfl) Sb.a (rd_load1 rfl hr) rfl (by kernel_rfl) ?_
    refine xm_take 5 (m' := 63) rfl (by kernel_rfl) Sb.a (rd_move rfl) rfl (by kernel_rfl) ?_
    refine xm_take 6 (m' := 127) rfl (by kernel_rfl) Sb.a (rd_lookup hm rfl rfl hk) rfl (by kernel_rfl) ?_
    refine xm_one 7 (m' := 255) rfl (by kernel_rfl) rfl (by kernel_rfl) (ef_callk (r := .bool b) (vs := [(f id).getD z0]) (first := []) (cap := cap) rfl rfl hf ?_)
    refine ⟨Sb.a, ?_⟩
    refine xm_take 8 (m' := 511) rfl (by kernel_rfl) Sb.a (rd_not rfl) rfl (by kernel_rfl) ?_
    refine xm_take 9 (m' := 1023) rfl (by kernel_rfl) Sb.a (rd_assign rfl) rfl (by kernel_rfl) ?_
    refine xm_done (by kernel_rfl) ?_
    refine xq_seq ?_
    refine xc_ret ?_
  all_goals exact xq_ret1 (.inl rfl) Try.results29 rfl ⟨rfl, rfl⟩
theorem rqB_mem {w : Int} {r mb : Nat} {mo : Obj} {L : List Blk} : (r, Obj.cells #[.int .u64 w, .map (some mb)] 48 (0, 0)) ∈ rqB w r mb mo L ∧ (mb, mo) ∈ rqB w r mb mo L := ⟨List.mem_cons_self, List.mem_cons_of_mem _ List.mem_cons_self⟩
theorem filter_nn {α : Type} (p : α → Bool) (l : List α) : (l.filter fun x => !!p x) = l.filter p := by simp
set_option maxHeartbeats 1600000 in
theorem xf_those {W : World} {L : List Blk} (FN : Nat) [hC : Cf Try.prog FN] (cap : List Value) (w : Int) (r mb : Nat) (mo : Obj) (l : List Sr) (hx : RqOk w mo l) (ph : Sr → Bool)
    (hf : ∀ L' s, s ∈ l → (∀ z, z ∈ rqB w r mb mo L → z ∈ L') → XF Try.prog W FN ([] ++ [Value.agg (sEnc s.last s.sent s.wt).toArray] ++ cap).toArray L' (fun v L'' => v = .bool (ph s) ∧ L'' = L')) :
    XF Try.prog W 18 #[.pointer (some ⟨r, 0, none⟩), .func (.func FN) #[] cap.toArray] (rqB w r mb mo L) (fun v L' => ∃ p k lo, v = .slice p ((l.filter ph).map Sr.id).length k ∧ SlQ 1 30 (.slice p ((l.filter ph).map Sr.id).length k) ((l.filter ph).map Sr.id).length (ints .u32 ((l.filter ph).map Sr.id)) lo ∧ L' = lo ++ rqB w r mb mo L) := by
  have hmp := hx.mp
  have hso := hx.so
  have hsm := hx.sm
  refine xf_enter (args := [_, _]) Try.func18 rfl Try.ntmps18 rfl ?_
  focus
    refine xc_seq ?_
    refine xc_region ?_
    refine xo_ef rfl (ef_box rfl fun r2 => ?_)
    refine xo_ef rfl (ef_box rfl fun r3 => ?_)
    refine xo_rd (rd_assign rfl) rfl ?_
    refine xo_nil ?_
    refine xq_seq ?_
    refine xc_seq ?_
    refine xc_seq ?_
    refine xc_region ?_
    refine xo_rd (rd_load1 rfl (Cl.o1 rfl)) rfl ?_
    refine xo_rd (rd_eqnil rfl) rfl ?_
    refine xo_nil ?_
    refine xq_seq ?_
    refine xc_condf rfl ?_
    refine xc_skip ?_
    refine xq_seq ?_
    refine xc_seq ?_
    refine xc_region ?_
    refine xo_rd (rd_load1 rfl (Cl.o1 rfl)) rfl ?_
    refine xo_rd (rd_nilCheck rfl) rfl ?_
    refine xo_rd (rd_fieldAddr rfl) rfl ?_
    refine xo_rd (rd_load1 rfl (Cl.own (i := 1) (List.mem_cons_of_mem _ (List.mem_cons_of_mem _ (rqB_mem (w := w) (r := r) (mb := mb) (mo := mo) (L := L)).1)) rfl)) rfl ?_
    refine xo_ef rfl (ef_call rfl (XF.mono (xf_keys mb) ?_))
    rintro v L' ⟨rb, rfl, rfl⟩
    refine xo_ef rfl (ef_call rfl (XF.mono (xf_sorted rb mb mo l hmp hso hsm List.mem_cons_self (List.mem_cons_of_mem _ (List.mem_cons_of_mem _ (List.mem_cons_of_mem _ (rqB_mem (w := w) (r := r) (mb := mb) (mo := mo) (L := L)).2)))) ?_))
    rintro v L' ⟨p, k, lo, rfl, hO, rfl⟩
    refine xo_rd (rd_assign rfl) rfl ?_
    refine xo_nil ?_
    refine xq_seq ?_
  have hin : ∀ lx z, z ∈ rqB w r mb mo L → z ∈ lx ++ ((rb, Obj.cells #[.map (some mb)] 46 (0, 0)) :: (r3, Obj.cells #[.func (.func FN) #[] cap.toArray] 53 (0, 0)) :: (r2, Obj.cells #[.pointer (some ⟨r, 0, none⟩)] 25 (0, 0)) :: rqB w r mb mo L) := fun lx z hz => List.mem_append_right _ (List.mem_cons_of_mem _ (List.mem_cons_of_mem _ (List.mem_cons_of_mem _ hz)))
  have hdel := xf_delf (W := W) (R := (rb, Obj.cells #[.map (some mb)] 46 (0, 0)) :: (r3, Obj.cells #[.func (.func FN) #[] cap.toArray] 53 (0, 0)) :: (r2, Obj.cells #[.pointer (some ⟨r, 0, none⟩)] 25 (0, 0)) :: rqB w r mb mo L) p l.length k (l.map Sr.id) lo hO (List.length_map ..) (fun id => !ph (getS l id)) (by omega) r3 r2 (fun l' id hid => by
    obtain ⟨s, hs, rfl⟩ := List.mem_map.1 hid
    have hg := getS_mem hso hs
    refine xf_29 FN cap s.id r3 r2 r mb mo (srV l) l.length hmp (Cl.own (List.mem_append_right _ (List.mem_cons_of_mem _ List.mem_cons_self)) rfl) (Cl.own (List.mem_append_right _ (List.mem_cons_of_mem _ (List.mem_cons_of_mem _ List.mem_cons_self))) rfl) (Cl.own (hin _ _ rqB_mem.1) rfl) (.inr (hin _ _ rqB_mem.2)) (ph (getS l s.id)) ?_
    rw [show (srV l s.id).getD z0 = _ from srV_get l s.id, hg]
    exact hf _ s hs (hin _))
  rw [filter_nn, filt_ids hso] at hdel
  focus
    refine xc_seq ?_
    refine xc_region ?_
    refine xo_rd (rd_move rfl) rfl ?_
    refine xo_rd (rd_makeFunc rfl rfl) rfl ?_
    refine xo_ef rfl (ef_call rfl (XF.mono (hdel) ?_))
    rintro v L' ⟨l', rfl, hO', rfl⟩
    refine xo_rd (rd_assign rfl) rfl ?_
    refine xo_nil ?_
    refine xq_seq ?_
    refine xc_ret ?_
  exact xq_sub ((List.sublist_append_right [_, _, _] _).append_left l') (xq_ret1 (.inl rfl) Try.results18 rfl ⟨p, k, l', rfl, hO', rfl⟩)
theorem xf_22 {W : World} {L : List Blk} (s : Sr) : XF Try.prog W 22 #[.agg (sEnc s.last s.sent s.wt).toArray] L (fun v L' => v = .bool (decide (0 < s.wt)) ∧ L' = L) := by
  refine xf_enter (args := [_]) Try.func22 rfl Try.ntmps22 rfl ?_
  focus
    refine xc_seq ?_
    refine xc_region ?_
    refine xo_ef rfl (ef_box rfl fun r1 => ?_)
    refine xo_rd (rd_assign rfl) rfl ?_
    refine xo_nil ?_
    refine xq_seq ?_
    refine xc_seq ?_
    refine xc_region ?_
    refine xo_rd (rd_fieldAddr rfl) rfl ?_
    refine xo_rd (rd_load1 rfl (Cl.o0 rfl)) rfl ?_
    refine xo_rd (rd_gtr rfl rfl) rfl ?_
    refine xo_rd (rd_assign rfl) rfl ?_
    refine xo_nil ?_
    refine xq_seq ?_
    refine xc_ret ?_
  exact xq_sub (List.sublist_cons_self _ _) (xq_ret1 (.inl rfl) Try.results22 rfl ⟨rfl, rfl⟩)
theorem xf_Waiting {W : World} {L : List Blk} (w : Int) (r mb : Nat) (mo : Obj) (l : List Sr) (hx : RqOk w mo l) :
    XF Try.prog W 15 #[.pointer (some ⟨r, 0, none⟩)] (rqB w r mb mo L) (fun v L' => ∃ p k lo, v = .slice p (waitL l).length k ∧ SlQ 1 30 (.slice p (waitL l).length k) (waitL l).length (ints .u32 (waitL l)) lo ∧ L' = lo ++ rqB w r mb mo L) := by
  refine xf_enter (args := [_]) Try.func15 rfl Try.ntmps15 rfl ?_
  focus
    refine xc_seq ?_
    refine xc_region ?_
    refine xo_rd (rd_assign rfl) rfl ?_
    refine xo_nil ?_
    refine xq_seq ?_
    refine xc_seq ?_
    refine xc_region ?_
    refine xo_rd (rd_move rfl) rfl ?_
    refine xo_ef rfl (ef_call rfl (XF.mono (xf_those (L := L) 22 [] w r mb mo l hx (fun s => decide (0 < s.wt)) (fun L' s hs h => xf_22 s)) ?_))
    rintro v L' ⟨p, k, lo, rfl, hO, rfl⟩
    refine xo_rd (rd_assign rfl) rfl ?_
    refine xo_nil ?_
    refine xq_seq ?_
    refine xc_ret ?_
  exact xq_ret1 (.inl rfl) Try.results15 rfl ⟨p, k, lo, rfl, hO, rfl⟩
theorem xf_19 {W : World} {L : List Blk} (q q2 r : Nat) (s : Sr) (now w : Int) (hq : Cl W L q 0 (.pointer (some ⟨r, 0, none⟩))) (hq2 : Cl W L q2 0 (.int .u64 now)) (hw : Cl W L r 0 (.int .u64 w)) (hs : 0 ≤ s.sent) (hla : 0 ≤ s.last ∧ s.last ≤ 18446744073709551615) (hn : 0 ≤ now ∧ now ≤ 18446744073709551615) :
    XF Try.prog W 19 #[.agg (sEnc s.last s.sent s.wt).toArray, .pointer (some ⟨q, 0, none⟩), .pointer (some ⟨q2, 0, none⟩)] L (fun v L' => v = .bool (dueS w now s) ∧ L' = L) := by
  obtain ⟨b, hb⟩ : ∃ b, mayB w s now = b := ⟨_, rfl⟩
  unfold dueS
  rw [hb]
  refine xf_enter (args := [_, _, _]) Try.func19 rfl Try.ntmps19 rfl ?_
  focus
    refine xc_seq ?_
    refine xc_region ?_
    refine xo_ef rfl (ef_box rfl fun r3 => ?_)
    refine xo_rd (rd_assign rfl) rfl ?_
    refine xo_nil ?_
    refine xq_seq ?_
    refine xc_seq ?_
    refine xc_region ?_
    refine xo_rd (rd_fieldAddr rfl) rfl ?_
    refine xo_rd (rd_load1 rfl (Cl.o0 rfl)) rfl ?_
    refine xo_rd (rd_gtr rfl rfl) rfl ?_
    refine xo_rd (rd_move rfl) rfl ?_
    refine xo_dec 8 rfl (fun hz1 => ?_) (fun hz1 => ?_)
    refine xo_grd rfl rfl (rd_load1 rfl (hq.mono (by intro z hz; simp [hz]))) rfl ?_
    refine xo_grd rfl rfl (rd_loadB rfl Kn.o0 (by rfl)) rfl ?_
    refine xo_grd rfl rfl (rd_load1 rfl (hq2.mono (by intro z hz; simp [hz]))) rfl ?_
    refine xo_gef rfl rfl rfl (ef_call rfl (XF.mono (xf_may r s now w (hw.mono (by intro z hz; simp [hz])) hs hla hn b hb) ?_))
    rintro v L' ⟨rfl, rfl⟩
    refine xo_rd (rd_pickt rfl rfl) rfl ?_
    refine xo_rd (rd_assign rfl) rfl ?_
    refine xo_nil ?_
    refine xq_seq ?_
    refine xc_ret ?_
    rotate_left
    refine xo_gskip rfl rfl rfl rfl ?_
    refine xo_gskip rfl rfl rfl rfl ?_
    refine xo_gskip rfl rfl rfl rfl ?_
    refine xo_gskip rfl rfl rfl rfl ?_
    refine xo_rd (rd_pickf rfl rfl) rfl ?_
    refine xo_rd (rd_assign rfl) rfl ?_
    refine xo_nil ?_
    refine xq_seq ?_
    refine xc_ret ?_
    rotate_left
  all_goals exact xq_sub (List.sublist_cons_self _ _) (xq_ret1 (.inl rfl) Try.results19 rfl ⟨by simp [*], rfl⟩)
end Go.Proofs.Ytoolgphkfnkajaa.X
