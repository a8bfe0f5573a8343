/-
  Texts of my own, put together: walks and laws for this seat. No condition.
-/
import Derived.Test.YtoolgphkfnkajaaM4
/-
  Chapter 23: those for which something holds; who waits; a tick: walks of my own.
-/
namespace Go.Proofs.Ytoolgphkfnkajaa.X
open Go Go.RowKit
set_option linter.unusedVariables false
set_option linter.unusedSimpArgs false
def z0 : Value := .agg (sEnc 0 0 0).toArray
theorem xf_29 {W : World} {L : List Blk} (FN : Nat) [hC : Cf Try.prog FN] (cap : List Value) (id : Int) (q q2 r mb : Nat) (mo : Obj) (f : Int → Option Value) (sz : Nat) (hm : MpIs .u32 mo f sz) (h1 : Cl W L q 0 (.func (.func FN) #[] cap.toArray)) (h2 : Cl W L q2 0 (.pointer (some ⟨r, 0, none⟩))) (hr : Cl W L r 1 (.map (some mb))) (hk : Kn W L mb mo) (b : Bool)
    (hf : XF Try.prog W FN ([] ++ [(f id).getD z0] ++ cap).toArray L (fun v L' => v = .bool b ∧ L' = L)) : XF Try.prog W 29 #[.int .u32 id, .pointer (some ⟨q, 0, none⟩), .pointer (some ⟨q2, 0, none⟩)] L (fun v L' => v = .bool (!b) ∧ L' = L) := by
  refine xf_enter (args := [_, _, _]) Try.func29 rfl Try.ntmps29 rfl ?_
  focus
    refine xc_seq ?_
    refine xc_region ?_
    refine xo_rd (rd_assign rfl) rfl ?_
    refine xo_nil ?_
    refine xq_seq ?_
    refine xc_seq ?_
    refine xc_drawML [0, 0, 2, 4, 8, 0, 48, 65, 128, 511] [0, 0, 2, 4, 8, 0, 48, 65, 128, 511] (by kernel_rfl) (by kernel_rfl) (by kernel_rfl) ?_
    refine xm_take 0 (m' := 1) rfl (by kernel_rfl) Sb.a (rd_load1 rfl h1) rfl (by kernel_rfl) ?_
    refine xm_take 1 (m' := 3) rfl (by kernel_rfl) Sb.a (rd_load1 rfl h2) rfl (by kernel_rfl) ?_
    refine xm_take 2 (m' := 7) rfl (by kernel_rfl) Sb.a (rd_nilCheck rfl) rfl (by kernel_rfl) ?_
    refine xm_take 3 (m' := 15) rfl (by kernel_rfl) Sb.a (rd_fieldAddr rfl) rfl (by kernel_rfl) ?_
    refine xm_take 4 (m' := 31) rfl (by kernel_rfl) Sb.a (rd_load1 rfl hr) rfl (by kernel_rfl) ?_
    refine xm_take 5 (m' := 63) rfl (by kernel_rfl) Sb.a (rd_move rfl) rfl (by kernel_rfl) ?_
    refine xm_take 6 (m' := 127) rfl (by kernel_rfl) Sb.a (rd_lookup hm rfl rfl hk) rfl (by kernel_rfl) ?_
    refine xm_one 7 (m' := 255) rfl (by kernel_rfl) rfl (by kernel_rfl) (ef_callk (r := .bool b) (vs := [(f id).getD z0]) (first := []) (cap := cap) rfl rfl hf ?_)
    refine ⟨Sb.a, ?_⟩
    refine xm_take 8 (m' := 511) rfl (by kernel_rfl) Sb.a (rd_not rfl) rfl (by kernel_rfl) ?_
    refine xm_take 9 (m' := 1023) rfl (by kernel_rfl) Sb.a (rd_assign rfl) rfl (by kernel_rfl) ?_
    refine xm_done (by kernel_rfl) ?_
    refine xq_seq ?_
    refine xc_ret ?_
  all_goals exact xq_ret1 (.inl rfl) Try.results29 rfl ⟨rfl, rfl⟩
theorem rqB_mem {w : Int} {r mb : Nat} {mo : Obj} {L : List Blk} : (r, Obj.cells #[.int .u64 w, .map (some mb)] 48 (0, 0)) ∈ rqB w r mb mo L ∧ (mb, mo) ∈ rqB w r mb mo L := ⟨List.mem_cons_self, List.mem_cons_of_mem _ List.mem_cons_self⟩
theorem filter_nn {α : Type} (p : α → Bool) (l : List α) : (l.filter fun x => !!p x) = l.filter p := by simp
set_option maxHeartbeats 1600000 in
theorem xf_those {W : World} {L : List Blk} (FN : Nat) [hC : Cf Try.prog FN] (cap : List Value) (w : Int) (r mb : Nat) (mo : Obj) (l : List Sr) (hx : RqOk w mo l) (ph : Sr → Bool)
    (hf : ∀ L' s, s ∈ l → (∀ z, z ∈ rqB w r mb mo L → z ∈ L') → XF Try.prog W FN ([] ++ [Value.agg (sEnc s.last s.sent s.wt).toArray] ++ cap).toArray L' (fun v L'' => v = .bool (ph s) ∧ L'' = L')) :
    XF Try.prog W 18 #[.pointer (some ⟨r, 0, none⟩), .func (.func FN) #[] cap.toArray] (rqB w r mb mo L) (fun v L' => ∃ p k lo, v = .slice p ((l.filter ph).map Sr.id).length k ∧ SlQ 1 30 (.slice p ((l.filter ph).map Sr.id).length k) ((l.filter ph).map Sr.id).length (ints .u32 ((l.filter ph).map Sr.id)) lo ∧ L' = lo ++ rqB w r mb mo L) := by
  have hmp := hx.mp
  have hso := hx.so
  have hsm := hx.sm
  refine xf_enter (args := [_, _]) Try.func18 rfl Try.ntmps18 rfl ?_
  focus
    refine xc_seq ?_
    refine xc_region ?_
    refine xo_ef rfl (ef_box rfl fun r2 => ?_)
    refine xo_ef rfl (ef_box rfl fun r3 => ?_)
    refine xo_rd (rd_assign rfl) rfl ?_
    refine xo_nil ?_
    refine xq_seq ?_
    refine xc_seq ?_
    refine xc_seq ?_
    refine xc_region ?_
    refine xo_rd (rd_load1 rfl (Cl.o1 rfl)) rfl ?_
    refine xo_rd (rd_eqnil rfl) rfl ?_
    refine xo_nil ?_
    refine xq_seq ?_
    refine xc_condf rfl ?_
    refine xc_skip ?_
    refine xq_seq ?_
    refine xc_seq ?_
    refine xc_region ?_
    refine xo_rd (rd_load1 rfl (Cl.o1 rfl)) rfl ?_
    refine xo_rd (rd_nilCheck rfl) rfl ?_
    refine xo_rd (rd_fieldAddr rfl) rfl ?_
    refine xo_rd (rd_load1 rfl (Cl.own (i := 1) (List.mem_cons_of_mem _ (List.mem_cons_of_mem _ (rqB_mem (w := w) (r := r) (mb := mb) (mo := mo) (L := L)).1)) rfl)) rfl ?_
    refine xo_ef rfl (ef_call rfl (XF.mono (xf_keys mb) ?_))
    rintro v L' ⟨rb, rfl, rfl⟩
    refine xo_ef rfl (ef_call rfl (XF.mono (xf_sorted rb mb mo l hmp hso hsm List.mem_cons_self (List.mem_cons_of_mem _ (List.mem_cons_of_mem _ (List.mem_cons_of_mem _ (rqB_mem (w := w) (r := r) (mb := mb) (mo := mo) (L := L)).2)))) ?_))
    rintro v L' ⟨p, k, lo, rfl, hO, rfl⟩
    refine xo_rd (rd_assign rfl) rfl ?_
    refine xo_nil ?_
    refine xq_seq ?_
  have hin : ∀ lx z, z ∈ rqB w r mb mo L → z ∈ lx ++ ((rb, Obj.cells #[.map (some mb)] 46 (0, 0)) :: (r3, Obj.cells #[.func (.func FN) #[] cap.toArray] 53 (0, 0)) :: (r2, Obj.cells #[.pointer (some ⟨r, 0, none⟩)] 25 (0, 0)) :: rqB w r mb mo L) := fun lx z hz => List.mem_append_right _ (List.mem_cons_of_mem _ (List.mem_cons_of_mem _ (List.mem_cons_of_mem _ hz)))
  have hdel := xf_delf (W := W) (R := (rb, Obj.cells #[.map (some mb)] 46 (0, 0)) :: (r3, Obj.cells #[.func (.func FN) #[] cap.toArray] 53 (0, 0)) :: (r2, Obj.cells #[.pointer (some ⟨r, 0, none⟩)] 25 (0, 0)) :: rqB w r mb mo L) p l.length k (l.map Sr.id) lo hO (List.length_map ..) (fun id => !ph (getS l id)) (by omega) r3 r2 (fun l' id hid => by
    obtain ⟨s, hs, rfl⟩ := List.mem_map.1 hid
    have hg := getS_mem hso hs
    refine xf_29 FN cap s.id r3 r2 r mb mo (srV l) l.length hmp (Cl.own (List.mem_append_right _ (List.mem_cons_of_mem _ List.mem_cons_self)) rfl) (Cl.own (List.mem_append_right _ (List.mem_cons_of_mem _ (List.mem_cons_of_mem _ List.mem_cons_self))) rfl) (Cl.own (hin _ _ rqB_mem.1) rfl) (.inr (hin _ _ rqB_mem.2)) (ph (getS l s.id)) ?_
    rw [show (srV l s.id).getD z0 = _ from srV_get l s.id, hg]
    exact hf _ s hs (hin _))
  rw [filter_nn, filt_ids hso] at hdel
  focus
    refine xc_seq ?_
    refine xc_region ?_
    refine xo_rd (rd_move rfl) rfl ?_
    refine xo_rd (rd_makeFunc rfl rfl) rfl ?_
    refine xo_ef rfl (ef_call rfl (XF.mono (hdel) ?_))
    rintro v L' ⟨l', rfl, hO', rfl⟩
    refine xo_rd (rd_assign rfl) rfl ?_
    refine xo_nil ?_
    refine xq_seq ?_
    refine xc_ret ?_
  exact xq_sub ((List.sublist_append_right [_, _, _] _).append_left l') (xq_ret1 (.inl rfl) Try.results18 rfl ⟨p, k, l', rfl, hO', rfl⟩)
theorem xf_22 {W : World} {L : List Blk} (s : Sr) : XF Try.prog W 22 #[.agg (sEnc s.last s.sent s.wt).toArray] L (fun v L' => v = .bool (decide (0 < s.wt)) ∧ L' = L) := by
  refine xf_enter (args := [_]) Try.func22 rfl Try.ntmps22 rfl ?_
  focus
    refine xc_seq ?_
    refine xc_region ?_
    refine xo_ef rfl (ef_box rfl fun r1 => ?_)
    refine xo_rd (rd_assign rfl) rfl ?_
    refine xo_nil ?_
    refine xq_seq ?_
    refine xc_seq ?_
    refine xc_region ?_
    refine xo_rd (rd_fieldAddr rfl) rfl ?_
    refine xo_rd (rd_load1 rfl (Cl.o0 rfl)) rfl ?_
    refine xo_rd (rd_gtr rfl rfl) rfl ?_
    refine xo_rd (rd_assign rfl) rfl ?_
    refine xo_nil ?_
    refine xq_seq ?_
    refine xc_ret ?_
  exact xq_sub (List.sublist_cons_self _ _) (xq_ret1 (.inl rfl) Try.results22 rfl ⟨rfl, rfl⟩)
theorem xf_Waiting {W : World} {L : List Blk} (w : Int) (r mb : Nat) (mo : Obj) (l : List Sr) (hx : RqOk w mo l) :
    XF Try.prog W 15 #[.pointer (some ⟨r, 0, none⟩)] (rqB w r mb mo L) (fun v L' => ∃ p k lo, v = .slice p (waitL l).length k ∧ SlQ 1 30 (.slice p (waitL l).length k) (waitL l).length (ints .u32 (waitL l)) lo ∧ L' = lo ++ rqB w r mb mo L) := by
  refine xf_enter (args := [_]) Try.func15 rfl Try.ntmps15 rfl ?_
  focus
    refine xc_seq ?_
    refine xc_region ?_
    refine xo_rd (rd_assign rfl) rfl ?_
    refine xo_nil ?_
    refine xq_seq ?_
    refine xc_seq ?_
    refine xc_region ?_
    refine xo_rd (rd_move rfl) rfl ?_
    refine xo_ef rfl (ef_call rfl (XF.mono (xf_those (L := L) 22 [] w r mb mo l hx (fun s => decide (0 < s.wt)) (fun L' s hs h => xf_22 s)) ?_))
    rintro v L' ⟨p, k, lo, rfl, hO, rfl⟩
    refine xo_rd (rd_assign rfl) rfl ?_
    refine xo_nil ?_
    refine xq_seq ?_
    refine xc_ret ?_
  exact xq_ret1 (.inl rfl) Try.results15 rfl ⟨p, k, lo, rfl, hO, rfl⟩
theorem xf_19 {W : World} {L : List Blk} (q q2 r : Nat) (s : Sr) (now w : Int) (hq : Cl W L q 0 (.pointer (some ⟨r, 0, none⟩))) (hq2 : Cl W L q2 0 (.int .u64 now)) (hw : Cl W L r 0 (.int .u64 w)) (hs : 0 ≤ s.sent) (hla : 0 ≤ s.last ∧ s.last ≤ 18446744073709551615) (hn : 0 ≤ now ∧ now ≤ 18446744073709551615) :
    XF Try.prog W 19 #[.agg (sEnc s.last s.sent s.wt).toArray, .pointer (some ⟨q, 0, none⟩), .pointer (some ⟨q2, 0, none⟩)] L (fun v L' => v = .bool (dueS w now s) ∧ L' = L) := by
  obtain ⟨b, hb⟩ : ∃ b, mayB w s now = b := ⟨_, rfl⟩
  unfold dueS
  rw [hb]
  refine xf_enter (args := [_, _, _]) Try.func19 rfl Try.ntmps19 rfl ?_
  focus
    refine xc_seq ?_
    refine xc_region ?_
    refine xo_ef rfl (ef_box rfl fun r3 => ?_)
    refine xo_rd (rd_assign rfl) rfl ?_
    refine xo_nil ?_
    refine xq_seq ?_
    refine xc_seq ?_
    refine xc_region ?_
    refine xo_rd (rd_fieldAddr rfl) rfl ?_
    refine xo_rd (rd_load1 rfl (Cl.o0 rfl)) rfl ?_
    refine xo_rd (rd_gtr rfl rfl) rfl ?_
    refine xo_rd (rd_move rfl) rfl ?_
    refine xo_dec 8 rfl (fun hz1 => ?_) (fun hz1 => ?_)
    refine xo_grd rfl rfl (rd_load1 rfl (hq.mono (by intro z hz; simp [hz]))) rfl ?_
    refine xo_grd rfl rfl (rd_loadB rfl Kn.o0 (by rfl)) rfl ?_
    refine xo_grd rfl rfl (rd_load1 rfl (hq2.mono (by intro z hz; simp [hz]))) rfl ?_
    refine xo_gef rfl rfl rfl (ef_call rfl (XF.mono (xf_may r s now w (hw.mono (by intro z hz; simp [hz])) hs hla hn b hb) ?_))
    rintro v L' ⟨rfl, rfl⟩
    refine xo_rd (rd_pickt rfl rfl) rfl ?_
    refine xo_rd (rd_assign rfl) rfl ?_
    refine xo_nil ?_
    refine xq_seq ?_
    refine xc_ret ?_
    rotate_left
    refine xo_gskip rfl rfl rfl rfl ?_
    refine xo_gskip rfl rfl rfl rfl ?_
    refine xo_gskip rfl rfl rfl rfl ?_
    refine xo_gskip rfl rfl rfl rfl ?_
    refine xo_rd (rd_pickf rfl rfl) rfl ?_
    refine xo_rd (rd_assign rfl) rfl ?_
    refine xo_nil ?_
    refine xq_seq ?_
    refine xc_ret ?_
    rotate_left
  all_goals exact xq_sub (List.sublist_cons_self _ _) (xq_ret1 (.inl rfl) Try.results19 rfl ⟨by simp [*], rfl⟩)
end Go.Proofs.Ytoolgphkfnkajaa.X
/-
  Chapter 23: a tick; who is answered: walks of my own.
-/
namespace Go.Proofs.Ytoolgphkfnkajaa.X
open Go Go.RowKit
set_option linter.unusedVariables false
set_option linter.unusedSimpArgs false
/-- Where a round over sources stands. -/
structure TkS where
  i : Nat
  mo : Obj
theorem tickO_mem {w now : Int} {l : List Sr} {d : Int} (h : d ∈ tickO w l now) : ∃ s, s ∈ l ∧ s.id = d ∧ dueS w now s = true := by
  obtain ⟨s, hs, rfl⟩ := List.mem_map.1 h
  have := List.mem_filter.1 hs
  exact ⟨s, this.1, rfl, this.2⟩
theorem nodup_take {l : List Int} {i : Nat} (hn : l.Nodup) (hi : i < l.length) : l[i] ∉ l.take i := fun h => by
  obtain ⟨j, hj, he⟩ := List.mem_take_iff_getElem.1 h
  have := (List.getElem_inj (h₀ := by omega) (h₁ := hi) hn).1 he
  omega
theorem map_nodup {l : List Sr} (hp : (l.map Sr.id).Pairwise (· < ·)) (ph : Sr → Bool) : ((l.filter ph).map Sr.id).Nodup :=
  (hp.sublist (List.filter_sublist.map _)).imp fun h => by omega
set_option maxHeartbeats 1600000 in
theorem xf_Tick {W : World} {L : List Blk} (w : Int) (r mb : Nat) (mo : Obj) (l : List Sr) (hx : RqOk w mo l) (now : Int) (hn : 0 ≤ now ∧ now ≤ 18446744073709551615) (hs : ∀ s, s ∈ l → s.sent < big) :
    XF Try.prog W 8 #[.pointer (some ⟨r, 0, none⟩), .int .u64 now] (rqB w r mb mo L) (fun v L' => ∃ p k lo mo', v = .slice p (tickO w l now).length k ∧ SlQ 1 30 (.slice p (tickO w l now).length k) (tickO w l now).length (ints .u32 (tickO w l now)) lo ∧ RqOk w mo' (tickL w l now) ∧ L' = lo ++ rqB w r mb mo' L) := by
  have hso := hx.so
  refine xf_enter (args := [_, _]) Try.func8 rfl Try.ntmps8 rfl ?_
  focus
    refine xc_seq ?_
    refine xc_region ?_
    refine xo_ef rfl (ef_box rfl fun r2 => ?_)
    refine xo_ef rfl (ef_box rfl fun r3 => ?_)
    refine xo_rd (rd_assign rfl) rfl ?_
    refine xo_nil ?_
    refine xq_seq ?_
  have hth := (xf_those (W := W) (L := [(r3, Obj.cells #[.int .u64 now] 22 (0, 0)), (r2, Obj.cells #[.pointer (some ⟨r, 0, none⟩)] 25 (0, 0))] ++ L) 19 [.pointer (some ⟨r2, 0, none⟩), .pointer (some ⟨r3, 0, none⟩)] w r mb mo l hx (dueS w now) (fun L' s hs h => by
    have h2 : ∀ z, z ∈ [(r3, Obj.cells #[.int .u64 now] 22 (0, 0)), (r2, Obj.cells #[.pointer (some ⟨r, 0, none⟩)] 25 (0, 0))] ++ L → z ∈ L' := fun z hz => h z (List.mem_cons_of_mem _ (List.mem_cons_of_mem _ hz))
    exact xf_19 r2 r3 r s now w (Cl.own (h2 _ (List.mem_cons_of_mem _ List.mem_cons_self)) rfl) (Cl.own (h2 _ List.mem_cons_self) rfl) (Cl.own (h _ rqB_mem.1) rfl) (hx.se s hs).1 (hx.la s hs) hn)).perm (rqB_front w r mb mo [_, _] L)
  focus
    refine xc_seq ?_
    refine xc_region ?_
    refine xo_rd (rd_load1 rfl (Cl.o1 rfl)) rfl ?_
    refine xo_rd (rd_makeFunc rfl rfl) rfl ?_
    refine xo_ef rfl (ef_call rfl (XF.mono (hth) ?_))
    rintro v L' ⟨p, k, lo, rfl, hO, rfl⟩
    refine xo_rd (rd_assign rfl) rfl ?_
    refine xo_nil ?_
    refine xq_seq ?_
    refine xc_seq ?_
    refine xc_seq ?_
    refine xc_region ?_
    refine xo_rd (rd_move rfl) rfl ?_
    refine xo_rd (rd_len rfl) rfl ?_
    refine xo_rd (rd_move rfl) rfl ?_
    refine xo_nil ?_
    refine xq_seq ?_
    refine xc_block ?_
  refine xc_perm (L' := rqB w r mb mo (lo ++ ([(r3, Obj.cells #[.int .u64 now] 22 (0, 0)), (r2, Obj.cells #[.pointer (some ⟨r, 0, none⟩)] 25 (0, 0))] ++ L))) (rqB_front w r mb mo lo _) ?_
  obtain ⟨G, hG⟩ : ∃ G, lo ++ ([(r3, Obj.cells #[.int .u64 now] 22 (0, 0)), (r2, Obj.cells #[.pointer (some ⟨r, 0, none⟩)] 25 (0, 0))] ++ L) = G := ⟨_, rfl⟩
  rw [hG]
  have h3 : (r3, Obj.cells #[.int .u64 now] 22 (0, 0)) ∈ G := by rw [← hG]; exact List.mem_append_right _ List.mem_cons_self
  have h2 : (r2, Obj.cells #[.pointer (some ⟨r, 0, none⟩)] 25 (0, 0)) ∈ G := by rw [← hG]; exact List.mem_append_right _ (List.mem_cons_of_mem _ List.mem_cons_self)
  have hlo : ∀ z, z ∈ lo → z ∈ G := fun z hz => by rw [← hG]; exact List.mem_append_left _ hz
  have htk : tickL w l now = stepM w now (tickO w l now) l := (tickL_step hso).symm
  have hnd : (tickO w l now).Nodup := map_nodup hso _
  have hmem : ∀ d, d ∈ tickO w l now → ∃ s, s ∈ l ∧ s.id = d ∧ dueS w now s = true := fun d => tickO_mem
  have hdl : (tickO w l now).length ≤ 12 := by
    unfold tickO
    rw [List.length_map]
    exact Nat.le_trans (List.length_filter_le ..) hx.sm
  rw [htk]
  change SlQ 1 30 (.slice p (tickO w l now).length k) (tickO w l now).length (ints .u32 (tickO w l now)) lo at hO
  rw [show ((l.filter (dueS w now)).map Sr.id) = tickO w l now from rfl]
  generalize tickO w l now = ds at *
  refine xc_loopI (ι := TkS) (fun s => s.i ≤ ds.length ∧ RqOk w s.mo (stepM w now (ds.take s.i) l)) (fun s => ds.length - s.i) (fun s => rqB w r mb s.mo G) (fun s => [(2, .pointer (some ⟨r2, 0, none⟩)), (3, .pointer (some ⟨r3, 0, none⟩)), (5, .slice p ds.length k), (11, .slice p ds.length k), (12, .int .i64 ds.length), (13, .int .i64 s.i)]) ⟨0, mo⟩ ⟨Nat.zero_le _, by
    have : stepM w now (ds.take 0) l = l := by unfold stepM; simp
    dsimp only; rw [this]; exact hx⟩ rfl (by repeat (first | exact keep_nil | refine keep_cons rfl ?_)) ?_
  rintro ⟨i, m2⟩ ⟨hi, hok⟩
  dsimp only at hi hok ⊢
  by_cases hin : i < ds.length
  case neg =>
    have hie : i = ds.length := by omega
    subst hie
    rw [List.take_length] at hok
    focus
      refine xc_seq ?_
      refine xc_region ?_
      refine xo_rd (rd_lss rfl rfl) rfl ?_
      refine xo_nil ?_
      refine xq_seq ?_
      refine xc_seq ?_
      refine xc_dec rfl (fun h1 => (by exfalso; omega)) (fun h1 => ?_)
      refine xc_exit ?_
      refine xq_then_exit ?_
      refine xq_then_exit ?_
      refine xq_block_hit ?_
      refine xq_seq ?_
      refine xc_seq ?_
      refine xc_region ?_
      refine xo_rd (rd_move rfl) rfl ?_
      refine xo_rd (rd_assign rfl) rfl ?_
      refine xo_nil ?_
      refine xq_seq ?_
      refine xc_ret ?_
    subst hG
    exact xq_perm (rqB_front w r mb m2 lo _).symm (xq_sub ((rqB_sub w r mb m2 [_, _] L).append_left lo) (xq_ret1 (.inl rfl) Try.results8 rfl ⟨p, k, lo, m2, rfl, hO, hok, rfl⟩))
  obtain ⟨s, hsl, hsi, hsd⟩ := hmem ds[i] (List.getElem_mem _)
  have hnt := nodup_take hnd hin
  have htake : ds.take (i + 1) = ds.take i ++ [ds[i]] := by rw [List.take_add_one, List.getElem?_eq_getElem hin]; rfl
  have hrs : Rs W (rqB w r mb m2 G) p (ints .u32 ds) := hO.rs fun z hz => List.mem_cons_of_mem _ (List.mem_cons_of_mem _ (hlo z hz))
  obtain ⟨b, o, hpb, hc⟩ := hrs.int (i := i) hin
  subst hpb
  generalize ds[i] = d at *
  subst hsi
  have hget := stepM_get hso hsl hnt (w := w) (now := now)
  have hask := stepM_ask hso hsl hnt (w := w) (now := now)
  rw [← htake] at hask
  have hmay : mayB w s now = true := by
    unfold dueS at hsd
    simp only [Bool.and_eq_true] at hsd
    exact hsd.2
  have hln : (stepM w now (ds.take (i + 1)) l).length ≤ 12 := by unfold stepM; rw [List.length_map]; exact hx.sm
  have hAsk := xf_Ask (W := W) (L := G) w r mb m2 _ hok s.id now (hx.id s hsl) hn (by rw [hget]; exact hs s hsl) (by rw [hask]; exact hln) true (by rw [hget]; exact hmay)
  rw [hask] at hAsk
  focus
    refine xc_seq ?_
    refine xc_region ?_
    refine xo_rd (rd_lss rfl rfl) rfl ?_
    refine xo_nil ?_
    refine xq_seq ?_
    refine xc_seq ?_
    refine xc_dec rfl (fun h1 => ?_) (fun h1 => (by exfalso; omega))
    refine xc_skip ?_
    refine xq_seq ?_
    refine xc_seq ?_
    refine xc_block ?_
    refine xc_seq ?_
    refine xc_region ?_
    refine xo_rd (rd_indexAddr rfl rfl (by omega) (by omega)) rfl ?_
    refine xo_rd (rd_load1 rfl hc) rfl ?_
    refine xo_rd (rd_assign rfl) rfl ?_
    refine xo_nil ?_
    refine xq_seq ?_
    refine xc_region ?_
    refine xo_rd (rd_load1 rfl (Cl.own (i := 0) (List.mem_cons_of_mem _ (List.mem_cons_of_mem _ h2)) rfl)) rfl ?_
    refine xo_rd (rd_move rfl) rfl ?_
    refine xo_rd (rd_load1 rfl (Cl.own (i := 0) (List.mem_cons_of_mem _ (List.mem_cons_of_mem _ h3)) rfl)) rfl ?_
    refine xo_ef rfl (ef_call rfl (XF.mono (hAsk) ?_))
    rintro v L' ⟨rfl, m3, hok3, rfl⟩
    refine xo_nil ?_
    refine xq_block ?_
    refine xq_seq ?_
    refine xc_region ?_
    refine xo_rd (rd_addn rfl rfl (by omega) (by omega)) rfl ?_
    refine xo_rd (rd_move rfl) rfl ?_
    refine xo_nil ?_
  exact xq_roundI (⟨i + 1, m3⟩ : TkS) ⟨by dsimp only; omega, hok3⟩ (by dsimp only; omega) rfl (by repeat (first | exact keep_nil | refine keep_cons rfl ?_))
end Go.Proofs.Ytoolgphkfnkajaa.X
/-
  Chapter 23: who is answered; when the next request may go: walks of my own.
-/
namespace Go.Proofs.Ytoolgphkfnkajaa.X
open Go Go.RowKit
set_option linter.unusedVariables false
set_option linter.unusedSimpArgs false
/-- Of those on a row, who is among the answered ones waits no more. -/
def ansM (az ts : List Int) (l : List Sr) : List Sr := l.map fun s => if s.id ∈ ts ∧ 0 ≤ ixOf az s.id then ansS s else s
theorem ansM_ids (az ts : List Int) (l : List Sr) : (ansM az ts l).map Sr.id = l.map Sr.id := by
  unfold ansM
  rw [List.map_map]
  refine List.map_congr_left fun s _ => ?_
  show (if s.id ∈ ts ∧ 0 ≤ ixOf az s.id then ansS s else s).id = s.id
  split <;> rfl
theorem ansM_get {az ts : List Int} {l : List Sr} (hp : (l.map Sr.id).Pairwise (· < ·)) {s : Sr} (hs : s ∈ l) (hd : s.id ∉ ts) : getS (ansM az ts l) s.id = s := by
  have hm : s ∈ ansM az ts l := by
    unfold ansM
    exact List.mem_map.2 ⟨s, hs, if_neg fun h => hd h.1⟩
  exact getS_mem (by rw [ansM_ids]; exact hp) hm
theorem ansM_skip {az ts : List Int} {l : List Sr} {d : Int} (h : ¬ 0 ≤ ixOf az d) : ansM az (ts ++ [d]) l = ansM az ts l := by
  unfold ansM
  refine List.map_congr_left fun s _ => ?_
  by_cases hd : s.id = d
  · rw [if_neg (by rw [hd]; exact fun h2 => h h2.2), if_neg (by rw [hd]; exact fun h2 => h h2.2)]
  · simp [hd]
theorem ansM_put {az ts : List Int} {l : List Sr} (hp : (l.map Sr.id).Pairwise (· < ·)) {s : Sr} (hs : s ∈ l) (hd : s.id ∉ ts) (ha : 0 ≤ ixOf az s.id) : putS (ansS s) (ansM az ts l) = ansM az (ts ++ [s.id]) l := by
  rw [put_map (by rw [ansM_ids]; exact hp) (by rw [ansM_ids]; show s.id ∈ _; exact List.mem_map_of_mem hs)]
  unfold ansM
  rw [List.map_map]
  refine List.map_congr_left fun y hy => ?_
  show (if (if y.id ∈ ts ∧ 0 ≤ ixOf az y.id then ansS y else y).id = s.id then ansS s else (if y.id ∈ ts ∧ 0 ≤ ixOf az y.id then ansS y else y)) = if y.id ∈ ts ++ [s.id] ∧ 0 ≤ ixOf az y.id then ansS y else y
  have hyi : (if y.id ∈ ts ∧ 0 ≤ ixOf az y.id then ansS y else y).id = y.id := by split <;> rfl
  rw [hyi]
  by_cases hys : y.id = s.id
  · have : y = s := by rw [← getS_mem hp hy, ← getS_mem hp hs, hys]
    subst this
    rw [if_pos rfl, if_pos ⟨by simp, ha⟩]
  · rw [if_neg hys]
    simp [hys]
/-- Who is among the answered ones waits no more. -/
def ansA (az : List Int) (l : List Sr) : List Sr := l.map fun s => if 0 < s.wt ∧ 0 ≤ ixOf az s.id then ansS s else s
theorem ansM_all {az : List Int} {l : List Sr} (hp : (l.map Sr.id).Pairwise (· < ·)) : ansM az (waitL l) l = ansA az l := by
  unfold ansM ansA
  refine List.map_congr_left fun s hs => ?_
  have : s.id ∈ waitL l ↔ 0 < s.wt := by
    constructor
    · intro h
      obtain ⟨y, hy, he⟩ := List.mem_map.1 h
      have hy2 := List.mem_filter.1 hy
      have : y = s := by rw [← getS_mem hp hy2.1, ← getS_mem hp hs, he]
      subst this
      simpa using hy2.2
    · intro h
      exact List.mem_map_of_mem (List.mem_filter.2 ⟨hs, by simpa using h⟩)
  simp only [this]
set_option maxHeartbeats 1600000 in
theorem xf_Answered {W : World} {L : List Blk} (w : Int) (r mb : Nat) (mo : Obj) (l : List Sr) (hx : RqOk w mo l) (q : Option Addr) (m c : Nat) (az : List Int) (hal : az.length = m) (har : Rs W (rqB w r mb mo L) q (ints .u32 az)) (hL0 : ∀ mo', Rs W (rqB w r mb mo' L) q (ints .u32 az)) (hm : m ≤ 1000) :
    XF Try.prog W 9 #[.pointer (some ⟨r, 0, none⟩), .slice q m c] (rqB w r mb mo L) (fun v L' => v = .tuple #[] ∧ ∃ mo', RqOk w mo' (ansA az l) ∧ L' = rqB w r mb mo' L) := by
  have hso := hx.so
  refine xf_enter (args := [_, _]) Try.func9 rfl Try.ntmps9 rfl ?_
  focus
    refine xc_seq ?_
    refine xc_region ?_
    refine xo_rd (rd_move rfl) rfl ?_
    refine xo_ef rfl (ef_call rfl (XF.mono (xf_Waiting w r mb mo l hx) ?_))
    rintro v L' ⟨p, k, lo, rfl, hO, rfl⟩
    refine xo_rd (rd_len rfl) rfl ?_
    refine xo_rd (rd_move rfl) rfl ?_
    refine xo_nil ?_
    refine xq_seq ?_
    refine xc_block ?_
  refine xc_perm (L' := rqB w r mb mo (lo ++ L)) (rqB_front w r mb mo lo _) ?_
  have htk : ansA az l = ansM az (waitL l) l := (ansM_all hso).symm
  have hnd : (waitL l).Nodup := map_nodup hso _
  have hmem : ∀ d, d ∈ waitL l → ∃ s, s ∈ l ∧ s.id = d := fun d h => by
    obtain ⟨s, hs, rfl⟩ := List.mem_map.1 h
    exact ⟨s, (List.mem_filter.1 hs).1, rfl⟩
  have hdl : (waitL l).length ≤ 12 := by
    unfold waitL
    rw [List.length_map]
    exact Nat.le_trans (List.length_filter_le ..) hx.sm
  have hra : ∀ mo', Rs W (rqB w r mb mo' (lo ++ L)) q (ints .u32 az) := fun mo' => (hL0 mo').mono fun z hz => (rqB_sub w r mb mo' lo L).subset hz
  rw [htk]
  generalize waitL l = ds at *
  refine xc_loopI (ι := TkS) (fun s => s.i ≤ ds.length ∧ RqOk w s.mo (ansM az (ds.take s.i) l)) (fun s => ds.length - s.i) (fun s => rqB w r mb s.mo (lo ++ L)) (fun s => [(0, .pointer (some ⟨r, 0, none⟩)), (1, .slice q m c), (8, .slice p ds.length k), (9, .int .i64 ds.length), (10, .int .i64 s.i)]) ⟨0, mo⟩ ⟨Nat.zero_le _, by
    have : ansM az (ds.take 0) l = l := by unfold ansM; simp
    dsimp only; rw [this]; exact hx⟩ rfl (by repeat (first | exact keep_nil | refine keep_cons rfl ?_)) ?_
  rintro ⟨i, m2⟩ ⟨hi, hok⟩
  dsimp only at hi hok ⊢
  by_cases hin : i < ds.length
  case neg =>
    have hie : i = ds.length := by omega
    subst hie
    rw [List.take_length] at hok
    focus
      refine xc_seq ?_
      refine xc_region ?_
      refine xo_rd (rd_lss rfl rfl) rfl ?_
      refine xo_nil ?_
      refine xq_seq ?_
      refine xc_seq ?_
      refine xc_dec rfl (fun h1 => (by exfalso; omega)) (fun h1 => ?_)
      refine xc_exit ?_
      refine xq_then_exit ?_
      refine xq_then_exit ?_
      refine xq_block_hit ?_
    exact xq_sub (rqB_sub w r mb m2 lo L) (xq_ret0 (.inr rfl) Try.results9 ⟨rfl, m2, hok, rfl⟩)
  obtain ⟨s, hsl, hsi⟩ := hmem ds[i] (List.getElem_mem _)
  have hnt := nodup_take hnd hin
  have htake : ds.take (i + 1) = ds.take i ++ [ds[i]] := by rw [List.take_add_one, List.getElem?_eq_getElem hin]; rfl
  have hrs : Rs W (rqB w r mb m2 (lo ++ L)) p (ints .u32 ds) := hO.rs fun z hz => List.mem_cons_of_mem _ (List.mem_cons_of_mem _ (List.mem_append_left _ hz))
  obtain ⟨b, o, hpb, hc⟩ := hrs.int (i := i) hin
  subst hpb
  generalize ds[i] = d at *
  subst hsi
  have hget := ansM_get (az := az) hso hsl hnt
  have hmp := hok.mp
  have hlk := srV_get (ansM az (ds.take i) l) s.id
  rw [hget] at hlk
  by_cases hc1 : 0 ≤ ixOf az s.id
  · have hput := ansM_put (az := az) hso hsl hnt hc1
    rw [← htake] at hput
    have hput2 := fun mo' h => RqOk.put (mo' := mo') (s := ansS s) hok h (by rw [hput]; unfold ansM; rw [List.length_map]; exact hx.sm) (hx.id s hsl) (hx.la s hsl) (hx.se s hsl) (.inl rfl)
    rw [hput] at hput2
    have hcon := xf_contains (W := W) (L := rqB w r mb m2 (lo ++ L)) q m c az s.id hal (hra m2) (by omega)
    rw [decide_eq_true hc1] at hcon
    unfold rqB at *
    focus
      refine xc_seq ?_
      refine xc_region ?_
      refine xo_rd (rd_lss rfl rfl) rfl ?_
      refine xo_nil ?_
      refine xq_seq ?_
      refine xc_seq ?_
      refine xc_dec rfl (fun h1 => ?_) (fun h1 => (by exfalso; omega))
      refine xc_skip ?_
      refine xq_seq ?_
      refine xc_seq ?_
      refine xc_block ?_
      refine xc_seq ?_
      refine xc_region ?_
      refine xo_rd (rd_indexAddr rfl rfl (by omega) (by omega)) rfl ?_
      refine xo_rd (rd_load1 rfl hc) rfl ?_
      refine xo_rd (rd_assign rfl) rfl ?_
      refine xo_nil ?_
      refine xq_seq ?_
      refine xc_seq ?_
      refine xc_region ?_
      refine xo_rd (rd_move rfl) rfl ?_
      refine xo_rd (rd_move rfl) rfl ?_
      refine xo_ef rfl (ef_call rfl (XF.mono (hcon) ?_))
      rintro v L' ⟨rfl, rfl⟩
      refine xo_nil ?_
      refine xq_seq ?_
      refine xc_condt rfl ?_
      refine xc_seq ?_
      refine xc_region ?_
      refine xo_rd (rd_move rfl) rfl ?_
      refine xo_rd (rd_nilCheck rfl) rfl ?_
      refine xo_rd (rd_fieldAddr rfl) rfl ?_
      refine xo_rd (rd_load1 rfl (Cl.o0 rfl)) rfl ?_
      refine xo_rd (rd_move rfl) rfl ?_
      refine xo_rd (rd_cast (v' := .agg (sEnc s.last s.sent s.wt).toArray) (rd_lookup hmp rfl rfl Kn.o1) hlk) rfl ?_
      refine xo_ef rfl (ef_alloc fun r6 => ?_)
      refine xo_ef rfl (ef_storeB [] _ rfl rfl (by first | rfl | assumption) rfl rfl rfl ?_)
      refine xo_nil ?_
      refine xq_seq ?_
      refine xc_seq ?_
      refine xc_region ?_
      refine xo_rd (rd_fieldAddr rfl) rfl ?_
      refine xo_ef rfl (ef_store1 [] _ rfl rfl (by first | rfl | assumption) rfl rfl rfl ?_)
      refine xo_nil ?_
      refine xq_seq ?_
      refine xc_drawM [0, 1, 2, 4, 0, 0, 63] [0, 1, 2, 4, 0, 0, 63] [] (by kernel_rfl) (by kernel_rfl) (by kernel_rfl) ?_
      refine xm_take 0 (m' := 1) rfl (by kernel_rfl) Sb.a (rd_move rfl) rfl (by kernel_rfl) ?_
      refine xm_take 1 (m' := 3) rfl (by kernel_rfl) Sb.a (rd_nilCheck rfl) rfl (by kernel_rfl) ?_
      refine xm_take 2 (m' := 7) rfl (by kernel_rfl) Sb.a (rd_fieldAddr rfl) rfl (by kernel_rfl) ?_
      refine xm_take 4 (m' := 23) rfl (by kernel_rfl) Sb.a (rd_move rfl) rfl (by kernel_rfl) ?_
      refine xm_two 3 5 (mi := 31) (mk := 55) rfl rfl (by kernel_rfl) rfl rfl (by kernel_rfl) (by kernel_rfl) (ef_rd (rd_load1 rfl (Cl.o1 rfl)) ⟨Sb.a, ?_⟩) (ef_rd (rd_loadB rfl Kn.o0 (by rfl)) ⟨Sb.a, ?_⟩)
      refine xm_one 5 (m' := 63) rfl (by kernel_rfl) rfl (by kernel_rfl) (ef_rd (rd_loadB rfl Kn.o0 (by rfl)) ?_)
      refine ⟨Sb.a, ?_⟩
      refine xm_one 6 (m' := 127) rfl (by kernel_rfl) rfl (by kernel_rfl) (ef_mapUpdate [_, _] (lo ++ L) hmp rfl rfl rfl rfl fun mo2 hmp2 => ?_)
      refine ⟨Sb.a, ?_⟩
      refine xm_done (by kernel_rfl) ?_
      refine xq_block ?_
      refine xq_seq ?_
      refine xc_region ?_
      refine xo_rd (rd_addn rfl rfl (by omega) (by omega)) rfl ?_
      refine xo_rd (rd_move rfl) rfl ?_
      refine xo_nil ?_
      rotate_left
      refine xm_one 3 (m' := 63) rfl (by kernel_rfl) rfl (by kernel_rfl) (ef_rd (rd_load1 rfl (Cl.o1 rfl)) ?_)
      refine ⟨Sb.a, ?_⟩
      refine xm_one 6 (m' := 127) rfl (by kernel_rfl) rfl (by kernel_rfl) (ef_mapUpdate [_, _] (lo ++ L) hmp rfl rfl rfl rfl fun mo2 hmp2 => ?_)
      refine ⟨Sb.a, ?_⟩
      refine xm_done (by kernel_rfl) ?_
      refine xq_block ?_
      refine xq_seq ?_
      refine xc_region ?_
      refine xo_rd (rd_addn rfl rfl (by omega) (by omega)) rfl ?_
      refine xo_rd (rd_move rfl) rfl ?_
      refine xo_nil ?_
      rotate_left
    all_goals exact xq_sub (List.sublist_cons_self _ _) (xq_roundI (⟨i + 1, mo2⟩ : TkS) ⟨by dsimp only; omega, hput2 mo2 hmp2⟩ (by dsimp only; omega) rfl (by repeat (first | exact keep_nil | refine keep_cons rfl ?_)))
  · have hcon := xf_contains (W := W) (L := rqB w r mb m2 (lo ++ L)) q m c az s.id hal (hra m2) (by omega)
    rw [decide_eq_false hc1] at hcon
    have hsk := ansM_skip (az := az) (ts := ds.take i) (l := l) hc1
    rw [← htake] at hsk
    focus
      refine xc_seq ?_
      refine xc_region ?_
      refine xo_rd (rd_lss rfl rfl) rfl ?_
      refine xo_nil ?_
      refine xq_seq ?_
      refine xc_seq ?_
      refine xc_dec rfl (fun h1 => ?_) (fun h1 => (by exfalso; omega))
      refine xc_skip ?_
      refine xq_seq ?_
      refine xc_seq ?_
      refine xc_block ?_
      refine xc_seq ?_
      refine xc_region ?_
      refine xo_rd (rd_indexAddr rfl rfl (by omega) (by omega)) rfl ?_
      refine xo_rd (rd_load1 rfl hc) rfl ?_
      refine xo_rd (rd_assign rfl) rfl ?_
      refine xo_nil ?_
      refine xq_seq ?_
      refine xc_seq ?_
      refine xc_region ?_
      refine xo_rd (rd_move rfl) rfl ?_
      refine xo_rd (rd_move rfl) rfl ?_
      refine xo_ef rfl (ef_call rfl (XF.mono (hcon) ?_))
      rintro v L' ⟨rfl, rfl⟩
      refine xo_nil ?_
      refine xq_seq ?_
      refine xc_condf rfl ?_
      refine xc_skip ?_
      refine xq_block ?_
      refine xq_seq ?_
      refine xc_region ?_
      refine xo_rd (rd_addn rfl rfl (by omega) (by omega)) rfl ?_
      refine xo_rd (rd_move rfl) rfl ?_
      refine xo_nil ?_
    exact xq_roundI (⟨i + 1, m2⟩ : TkS) ⟨by dsimp only; omega, by dsimp only; rw [hsk]; exact hok⟩ (by dsimp only; omega) rfl (by repeat (first | exact keep_nil | refine keep_cons rfl ?_))
/-- When the next request may go. -/
def dueF (w : Int) (l : List Sr) (ds : List Int) : Int := ds.foldl (fun d id => min d ((getS l id).last + min w (18446744073709551615 - (getS l id).last))) 18446744073709551615
set_option maxHeartbeats 1600000 in
theorem xf_Due {W : World} {L : List Blk} (w : Int) (r mb : Nat) (mo : Obj) (l : List Sr) (hx : RqOk w mo l) :
    XF Try.prog W 14 #[.pointer (some ⟨r, 0, none⟩)] (rqB w r mb mo L) (fun v L' => v = .tuple #[.int .u64 (if waitL l = [] then 0 else dueF w l (waitL l)), .bool (decide (waitL l ≠ []))] ∧ L' = rqB w r mb mo L) := by
  have hmp := hx.mp
  have hw := hx.w
  have hmem : ∀ d, d ∈ waitL l → ∃ s, s ∈ l ∧ s.id = d := fun d h => by
    obtain ⟨s, hs, rfl⟩ := List.mem_map.1 h
    exact ⟨s, (List.mem_filter.1 hs).1, rfl⟩
  have hdl : (waitL l).length ≤ 12 := by
    unfold waitL
    rw [List.length_map]
    exact Nat.le_trans (List.length_filter_le ..) hx.sm
  have hwt := xf_Waiting (W := W) (L := L) w r mb mo l hx
  generalize waitL l = ds at *
  refine xf_enter (args := [_]) Try.func14 rfl Try.ntmps14 rfl ?_
  by_cases h0 : ds = []
  · subst h0
    focus
      refine xc_seq ?_
      refine xc_region ?_
      refine xo_rd (rd_assign rfl) rfl ?_
      refine xo_rd (rd_assign rfl) rfl ?_
      refine xo_nil ?_
      refine xq_seq ?_
      refine xc_seq ?_
      refine xc_region ?_
      refine xo_rd (rd_move rfl) rfl ?_
      refine xo_ef rfl (ef_call rfl (XF.mono (hwt) ?_))
      rintro v L' ⟨p, k, lo, rfl, hO, rfl⟩
      refine xo_rd (rd_assign rfl) rfl ?_
      refine xo_nil ?_
      refine xq_seq ?_
      refine xc_seq ?_
      refine xc_seq ?_
      refine xc_region ?_
      refine xo_rd (rd_move rfl) rfl ?_
      refine xo_rd (rd_len rfl) rfl ?_
      refine xo_rd (rd_eql rfl rfl) rfl ?_
      refine xo_nil ?_
      refine xq_seq ?_
      refine xc_condt rfl ?_
      refine xc_seq ?_
      refine xc_region ?_
      refine xo_rd (rd_assign rfl) rfl ?_
      refine xo_rd (rd_assign rfl) rfl ?_
      refine xo_nil ?_
      refine xq_seq ?_
      refine xc_ret ?_
      refine xq_then_ret ?_
    exact xq_sub (List.sublist_append_right lo _) (xq_ret2 (.inl rfl) Try.results14 rfl rfl ⟨by simp, rfl⟩)
  have hpos : 0 < ds.length := List.length_pos_iff.2 h0
  rw [if_neg h0, decide_eq_true h0]
  focus
    refine xc_seq ?_
    refine xc_region ?_
    refine xo_rd (rd_assign rfl) rfl ?_
    refine xo_rd (rd_assign rfl) rfl ?_
    refine xo_nil ?_
    refine xq_seq ?_
    refine xc_seq ?_
    refine xc_region ?_
    refine xo_rd (rd_move rfl) rfl ?_
    refine xo_ef rfl (ef_call rfl (XF.mono (hwt) ?_))
    rintro v L' ⟨p, k, lo, rfl, hO, rfl⟩
    refine xo_rd (rd_assign rfl) rfl ?_
    refine xo_nil ?_
    refine xq_seq ?_
    refine xc_seq ?_
    refine xc_seq ?_
    refine xc_region ?_
    refine xo_rd (rd_move rfl) rfl ?_
    refine xo_rd (rd_len rfl) rfl ?_
    refine xo_rd (rd_eql rfl rfl) rfl ?_
    refine xo_nil ?_
    refine xq_seq ?_
    refine xc_dec rfl (fun h1 => (by exfalso; omega)) (fun h1 => ?_)
    refine xc_skip ?_
    refine xq_seq ?_
    refine xc_seq ?_
    refine xc_region ?_
    refine xo_rd (rd_assign rfl) rfl ?_
    refine xo_nil ?_
    refine xq_seq ?_
    refine xc_seq ?_
    refine xc_seq ?_
    refine xc_region ?_
    refine xo_rd (rd_move rfl) rfl ?_
    refine xo_rd (rd_len rfl) rfl ?_
    refine xo_rd (rd_move rfl) rfl ?_
    refine xo_nil ?_
    refine xq_seq ?_
    refine xc_block ?_
  refine xc_loopK (ι := Nat) (fun i => i ≤ ds.length ∧ 0 ≤ dueF w l (ds.take i) ∧ dueF w l (ds.take i) ≤ 18446744073709551615) (fun i => ds.length - i) (fun i => [(0, .pointer (some ⟨r, 0, none⟩)), (5, .int .u64 (dueF w l (ds.take i))), (14, .slice p ds.length k), (15, .int .i64 ds.length), (16, .int .i64 i)]) 0 ⟨Nat.zero_le _, by unfold dueF; simp, by unfold dueF; simp⟩ (by repeat (first | exact keep_nil | refine keep_cons rfl ?_)) ?_
  rintro i ⟨hi, hd0, hd1⟩
  by_cases hin : i < ds.length
  case neg =>
    rw [List.take_of_length_le (by omega)]
    focus
      refine xc_seq ?_
      refine xc_region ?_
      refine xo_rd (rd_lss rfl rfl) rfl ?_
      refine xo_nil ?_
      refine xq_seq ?_
      refine xc_seq ?_
      refine xc_dec rfl (fun h1 => (by exfalso; omega)) (fun h1 => ?_)
      refine xc_exit ?_
      refine xq_then_exit ?_
      refine xq_then_exit ?_
      refine xq_block_hit ?_
      refine xq_seq ?_
      refine xc_seq ?_
      refine xc_region ?_
      refine xo_rd (rd_move rfl) rfl ?_
      refine xo_rd (rd_assign rfl) rfl ?_
      refine xo_rd (rd_assign rfl) rfl ?_
      refine xo_nil ?_
      refine xq_seq ?_
      refine xc_ret ?_
    exact xq_sub (List.sublist_append_right lo _) (xq_ret2 (.inl rfl) Try.results14 rfl rfl ⟨rfl, rfl⟩)
  have htake : dueF w l (ds.take (i + 1)) = min (dueF w l (ds.take i)) ((getS l ds[i]).last + min w (18446744073709551615 - (getS l ds[i]).last)) := by
    unfold dueF
    rw [List.take_add_one, List.getElem?_eq_getElem hin, List.foldl_append]; rfl
  obtain ⟨s, hsl, hsi⟩ := hmem ds[i] (List.getElem_mem _)
  have hlk := srV_get l ds[i]
  rw [← hsi, getS_mem hx.so hsl] at hlk htake
  have hla := hx.la s hsl
  have hrs : Rs W (lo ++ rqB w r mb mo L) p (ints .u32 ds) := hO.rs fun z hz => List.mem_append_left _ hz
  obtain ⟨b, o, hpb, hc⟩ := hrs.int (i := i) hin
  subst hpb
  rw [← hsi] at hc
  generalize dueF w l (ds.take i) = D at *
  have hval : dueF w l (ds.take (i + 1)) = if (s.last + if 18446744073709551615 - s.last < w then 18446744073709551615 - s.last else w) < D then s.last + (if 18446744073709551615 - s.last < w then 18446744073709551615 - s.last else w) else D := by
    rw [htake]
    simp only [Int.min_def]
    repeat' split
    all_goals omega
  have hb0 : 0 ≤ dueF w l (ds.take (i + 1)) ∧ dueF w l (ds.take (i + 1)) ≤ 18446744073709551615 := by rw [htake]; omega
  focus
    refine xc_seq ?_
    refine xc_region ?_
    refine xo_rd (rd_lss rfl rfl) rfl ?_
    refine xo_nil ?_
    refine xq_seq ?_
    refine xc_seq ?_
    refine xc_dec rfl (fun hz1 => ?_) (fun hz1 => (by exfalso; omega))
    refine xc_skip ?_
    refine xq_seq ?_
    refine xc_seq ?_
    refine xc_block ?_
    refine xc_seq ?_
    refine xc_region ?_
    refine xo_rd (rd_indexAddr rfl rfl (by omega) (by omega)) rfl ?_
    refine xo_rd (rd_load1 rfl hc) rfl ?_
    refine xo_rd (rd_assign rfl) rfl ?_
    refine xo_nil ?_
    refine xq_seq ?_
    refine xc_seq ?_
    refine xc_region ?_
    refine xo_rd (rd_move rfl) rfl ?_
    refine xo_rd (rd_nilCheck rfl) rfl ?_
    refine xo_rd (rd_fieldAddr rfl) rfl ?_
    refine xo_rd (rd_load1 rfl (Cl.own (i := 1) (List.mem_append_right _ (rqB_mem (w := w) (r := r) (mb := mb) (mo := mo) (L := L)).1) rfl)) rfl ?_
    refine xo_rd (rd_move rfl) rfl ?_
    refine xo_rd (rd_cast (v' := .agg (sEnc s.last s.sent s.wt).toArray) (rd_lookup hmp rfl rfl (.inr (List.mem_append_right _ rqB_mem.2))) hlk) rfl ?_
    refine xo_rd (rd_field1 rfl rfl) rfl ?_
    refine xo_rd (rd_assign rfl) rfl ?_
    refine xo_nil ?_
    refine xq_seq ?_
    refine xc_region ?_
    refine xo_rd (rd_move rfl) rfl ?_
    refine xo_rd (rd_move rfl) rfl ?_
    refine xo_rd (rd_move rfl) rfl ?_
    refine xo_rd (rd_nilCheck rfl) rfl ?_
    refine xo_rd (rd_fieldAddr rfl) rfl ?_
    refine xo_rd (rd_load1 rfl (Cl.own (i := 0) (List.mem_append_right _ (rqB_mem (w := w) (r := r) (mb := mb) (mo := mo) (L := L)).1) rfl)) rfl ?_
    refine xo_rd (rd_move rfl) rfl ?_
    refine xo_rd (rd_subn rfl rfl (by omega) (by omega)) rfl ?_
    refine xo_rd (rd_min rfl rfl) rfl ?_
    refine xo_rd (rd_addn rfl rfl (by omega) (by omega)) rfl ?_
    refine xo_rd (rd_min rfl rfl) rfl ?_
    refine xo_rd (rd_assign rfl) rfl ?_
    refine xo_nil ?_
    refine xq_block ?_
    refine xq_seq ?_
    refine xc_region ?_
    refine xo_rd (rd_addn rfl rfl (by omega) (by omega)) rfl ?_
    refine xo_rd (rd_move rfl) rfl ?_
    refine xo_nil ?_
  exact xq_roundK rfl (i + 1) ⟨by omega, hb0⟩ (by omega) (List.Sublist.refl _) (by rw [hval]; exact (by repeat (first | exact keep_nil | refine keep_cons rfl ?_)))
end Go.Proofs.Ytoolgphkfnkajaa.X
/-
  Chapter 23: the chapter's examples; a requester that is not there: walks of my own.
-/
namespace Go.Proofs.Ytoolgphkfnkajaa.X
open Go Go.RowKit
set_option linter.unusedVariables false
set_option linter.unusedSimpArgs false
theorem xf_AskK {W : World} {L : List Blk} (w : Int) (r mb : Nat) (mo : Obj) (l l2 : List Sr) (hx : RqOk w mo l) (id now : Int) (h : askL w l id now = l2) (hid : 0 ≤ id ∧ id ≤ 4294967295) (hn : 0 ≤ now ∧ now ≤ 18446744073709551615) (hs : (getS l id).sent < big) (h12 : l2.length ≤ 12) (b : Bool) (hb : mayB w (getS l id) now = b) :
    XF Try.prog W 10 #[.pointer (some ⟨r, 0, none⟩), .int .u32 id, .int .u64 now] (rqB w r mb mo L) (fun v L' => v = .bool b ∧ ∃ mo', RqOk w mo' l2 ∧ L' = rqB w r mb mo' L) := by
  subst h; exact xf_Ask w r mb mo l hx id now hid hn hs h12 b hb
theorem xf_TickK {W : World} {L : List Blk} (w : Int) (r mb : Nat) (mo : Obj) (l l2 : List Sr) (hx : RqOk w mo l) (now : Int) (ds : List Int) (h : tickL w l now = l2) (hd : tickO w l now = ds) (hn : 0 ≤ now ∧ now ≤ 18446744073709551615) (hs : ∀ s, s ∈ l → s.sent < big) :
    XF Try.prog W 8 #[.pointer (some ⟨r, 0, none⟩), .int .u64 now] (rqB w r mb mo L) (fun v L' => ∃ p k lo mo', v = .slice p ds.length k ∧ SlQ 1 30 (.slice p ds.length k) ds.length (ints .u32 ds) lo ∧ RqOk w mo' l2 ∧ L' = lo ++ rqB w r mb mo' L) := by
  subst h hd; exact xf_Tick w r mb mo l hx now hn hs
theorem xf_sameX {W : World} {L : List Blk} (p q : Option Addr) (m m' c c' : Nat) (xs ys : List Int) (hx : xs.length = m) (hy : ys.length = m') (hr : Rs W L p (ints .u32 xs)) (hs : Rs W L q (ints .u32 ys)) (hm : m ≤ 1000000000) (h : xs = ys) : XF Try.prog W 17 #[.slice p m c, .slice q m' c'] L (fun v L' => v = .bool true ∧ L' = L) := by
  have := xf_same (W := W) (L := L) p q m m' c c' xs ys hx hy hr hs hm
  rwa [decide_eq_true h] at this
def w1 : List Sr := [⟨7, 5, 1, 0⟩]
def w2 : List Sr := [⟨7, 5, 1, 1⟩]
def w3 : List Sr := [⟨7, 15, 2, 0⟩]
def w4 : List Sr := [⟨7, 15, 2, 1⟩]
def w6 : List Sr := [⟨7, 30, 3, 0⟩]
theorem all_big {l : List Sr} (h : (l.all fun s => decide (s.sent < big)) = true) : ∀ s, s ∈ l → s.sent < big := fun s hs => of_decide_eq_true (List.all_eq_true.1 h s hs)
set_option maxHeartbeats 3200000 in
theorem xf_works {W : World} {L : List Blk} : XF Try.prog W 6 #[] L (fun v L' => v = .bool true ∧ L' = L) := by
  refine xf_enter (args := []) Try.func6 rfl Try.ntmps6 rfl ?_
  focus
    refine xc_seq ?_
    refine xc_region ?_
    refine xo_rd (rd_assign rfl) rfl ?_
    refine xo_nil ?_
    refine xq_seq ?_
    refine xc_seq ?_
    refine xc_region ?_
    refine xo_ef rfl (ef_call rfl (XF.mono (xf_New 10 (by decide)) ?_))
    rintro v L' ⟨r, mb, mo, rfl, h0, rfl⟩
    refine xo_rd (rd_move rfl) rfl ?_
    refine xo_rd (rd_extract rfl rfl) rfl ?_
    refine xo_rd (rd_extract rfl rfl) rfl ?_
    refine xo_rd (rd_assign rfl) rfl ?_
    refine xo_rd (rd_assign rfl) rfl ?_
    refine xo_nil ?_
    refine xq_seq ?_
  focus
    refine xc_seq ?_
    refine xc_seq ?_
    refine xc_region ?_
    refine xo_rd (rd_move rfl) rfl ?_
    refine xo_rd (rd_neq rfl rfl) rfl ?_
    refine xo_rd (rd_move rfl) rfl ?_
    refine xo_grd rfl rfl (rd_move rfl) rfl ?_
    refine xo_gef rfl rfl rfl (ef_call rfl (XF.mono (xf_AskK 10 r mb mo [] w1 h0 7 5 rfl (by decide) (by decide) (by decide) (by decide) true rfl) ?_))
    rintro v L' ⟨rfl, mo1, h1, rfl⟩
    refine xo_grd rfl rfl (rd_not rfl) rfl ?_
    refine xo_rd (rd_pickf rfl rfl) rfl ?_
    refine xo_rd (rd_move rfl) rfl ?_
    refine xo_grd rfl rfl (rd_move rfl) rfl ?_
    refine xo_gef rfl rfl rfl (ef_call rfl (XF.mono (xf_AskK 10 r mb mo1 w1 w2 h1 7 9 rfl (by decide) (by decide) (by decide) (by decide) false rfl) ?_))
    rintro v L' ⟨rfl, mo2, h2, rfl⟩
    refine xo_rd (rd_pickf rfl rfl) rfl ?_
    refine xo_rd (rd_move rfl) rfl ?_
    refine xo_grd rfl rfl (rd_move rfl) rfl ?_
    refine xo_gef rfl rfl rfl (ef_call rfl (XF.mono (xf_TickK 10 r mb mo2 w2 w2 h2 14 [] rfl rfl (by decide) (all_big rfl)) ?_))
    rintro v L' ⟨p1, k1, lo1, mo3, rfl, hO1, h3, rfl⟩
    refine xo_grd rfl rfl (rd_len rfl) rfl ?_
    refine xo_grd rfl rfl (rd_neq rfl rfl) rfl ?_
    refine xo_rd (rd_pickf rfl rfl) rfl ?_
    refine xo_rd (rd_move rfl) rfl ?_
    refine xo_grd rfl rfl (rd_move rfl) rfl ?_
    refine xo_gef rfl rfl rfl (ef_call rfl (XF.mono ((xf_TickK 10 r mb mo3 w2 w3 h3 15 [7] rfl rfl (by decide) (all_big rfl)).perm (rqB_front _ _ _ _ lo1 _)) ?_))
    rintro v L' ⟨p2, k2, lo2, mo4, rfl, hO2, h4, rfl⟩
    refine xo_gef rfl rfl rfl (ef_buildL (T := 34) (len := 1) (s := 1) (cells := (ints .u32 [7]).toArray) rfl (by decide) (by decide) (by kernel_rfl) fun r29 => ?_)
    refine xo_gef rfl rfl rfl (ef_call rfl (XF.mono (xf_sameX p2 (some ⟨r29, 0, none⟩) 1 1 k2 1 [7] [7] rfl rfl (hO2.rs (by intro z hz; simp [hz])) (Rs.fresh (vs := ints .u32 [7]) (T := 30) (fr := (0, 0)) List.mem_cons_self) (by decide) rfl) ?_))
    rintro v L' ⟨rfl, rfl⟩
    refine xo_grd rfl rfl (rd_not rfl) rfl ?_
    refine xo_rd (rd_pickf rfl rfl) rfl ?_
    refine xo_rd (rd_move rfl) rfl ?_
    refine xo_grd rfl rfl (rd_move rfl) rfl ?_
    refine xo_gef rfl rfl rfl (ef_call rfl (XF.mono ((xf_AskK 10 r mb mo4 w3 w4 h4 7 24 rfl (by decide) (by decide) (by decide) (by decide) false rfl).perm (rqB_front _ _ _ _ (_ :: lo2) _)) ?_))
    rintro v L' ⟨rfl, mo5, h5, rfl⟩
    refine xo_rd (rd_pickf rfl rfl) rfl ?_
    refine xo_nil ?_
    refine xq_seq ?_
    refine xc_condf rfl ?_
    refine xc_skip ?_
    refine xq_seq ?_
  obtain ⟨G, hG⟩ : ∃ G, (r29, Obj.cells (ints .u32 [7]).toArray 30 (0, 0)) :: lo2 ++ (lo1 ++ L) = G := ⟨_, rfl⟩
  rw [hG]
  have hLG : L.Sublist G := by rw [← hG]; exact (List.sublist_append_right lo1 L).trans (List.sublist_append_right _ _)
  clear hG
  focus
    refine xc_seq ?_
    refine xc_region ?_
    refine xo_rd (rd_move rfl) rfl ?_
    refine xo_ef rfl (ef_call rfl (XF.mono (xf_Due 10 r mb mo5 w4 h5) ?_))
    rintro v L' ⟨rfl, rfl⟩
    refine xo_rd (rd_move rfl) rfl ?_
    refine xo_rd (rd_extract rfl rfl) rfl ?_
    refine xo_rd (rd_extract rfl rfl) rfl ?_
    refine xo_rd (rd_assign rfl) rfl ?_
    refine xo_rd (rd_assign rfl) rfl ?_
    refine xo_nil ?_
    refine xq_seq ?_
  focus
    refine xc_seq ?_
    refine xc_region ?_
    refine xo_rd (rd_move rfl) rfl ?_
    refine xo_ef rfl (ef_buildL (T := 34) (len := 1) (s := 1) (cells := (ints .u32 [7]).toArray) rfl (by decide) (by decide) (by kernel_rfl) fun r43 => ?_)
    refine xo_ef rfl (ef_call rfl (XF.mono ((xf_Answered (L := (r43, Obj.cells (ints .u32 [7]).toArray 30 (0, 0)) :: G) 10 r mb mo5 w4 h5 (some ⟨r43, 0, none⟩) 1 1 [7] rfl (Rs.fresh (vs := ints .u32 [7]) (T := 30) (fr := (0, 0)) (List.mem_cons_of_mem _ (List.mem_cons_of_mem _ List.mem_cons_self))) (fun mo' => Rs.fresh (vs := ints .u32 [7]) (T := 30) (fr := (0, 0)) (List.mem_cons_of_mem _ (List.mem_cons_of_mem _ List.mem_cons_self))) (by decide)).perm (rqB_front _ _ _ _ [_] _)) ?_))
    rintro v L' ⟨rfl, mo6, h6, rfl⟩
    refine xo_nil ?_
    refine xq_seq ?_
  have h6' : RqOk 10 mo6 w3 := h6
  focus
    refine xc_seq ?_
    refine xc_region ?_
    refine xo_rd (rd_move rfl) rfl ?_
    refine xo_rd (rd_eql rfl rfl) rfl ?_
    refine xo_rd (rd_move rfl) rfl ?_
    refine xo_grd rfl rfl (rd_move rfl) rfl ?_
    refine xo_rd (rd_pickt rfl rfl) rfl ?_
    refine xo_rd (rd_move rfl) rfl ?_
    refine xo_grd rfl rfl (rd_move rfl) rfl ?_
    refine xo_gef rfl rfl rfl (ef_call rfl (XF.mono (xf_TickK 10 r mb mo6 w3 w3 h6' 30 [] rfl rfl (by decide) (all_big rfl)) ?_))
    rintro v L' ⟨p7, k7, lo7, mo7, rfl, hO7, h7, rfl⟩
    refine xo_grd rfl rfl (rd_len rfl) rfl ?_
    refine xo_grd rfl rfl (rd_eql rfl rfl) rfl ?_
    refine xo_rd (rd_pickt rfl rfl) rfl ?_
    refine xo_rd (rd_move rfl) rfl ?_
    refine xo_grd rfl rfl (rd_move rfl) rfl ?_
    refine xo_gef rfl rfl rfl (ef_call rfl (XF.mono ((xf_AskK 10 r mb mo7 w3 w6 h7 7 30 rfl (by decide) (by decide) (by decide) (by decide) true rfl).perm (rqB_front _ _ _ _ lo7 _)) ?_))
    rintro v L' ⟨rfl, mo8, h8, rfl⟩
    refine xo_rd (rd_pickt rfl rfl) rfl ?_
    refine xo_rd (rd_move rfl) rfl ?_
    refine xo_grd rfl rfl (rd_move rfl) rfl ?_
    refine xo_gef rfl rfl rfl (ef_call rfl (XF.mono (xf_Sent 10 r mb mo8 w6 h8 7) ?_))
    rintro v L' ⟨rfl, rfl⟩
    refine xo_grd rfl rfl (rd_eql rfl rfl) rfl ?_
    refine xo_rd (rd_pickt rfl rfl) rfl ?_
    refine xo_rd (rd_assign rfl) rfl ?_
    refine xo_nil ?_
    refine xq_seq ?_
    refine xc_ret ?_
  exact xq_sub (((hLG.trans (List.sublist_cons_self _ _)).trans (List.sublist_append_right lo7 _)).trans ((List.sublist_cons_self _ _).trans (List.sublist_cons_self _ _))) (xq_ret1 (.inl rfl) Try.results6 rfl ⟨rfl, rfl⟩)
/-! ### a requester that is not there -/
theorem xf_thoseN {W : World} {L : List Blk} (fv : Value) (h1 : fv.oneCell' = true) : XF Try.prog W 18 #[.pointer none, fv] L (fun v L' => v = .slice none 0 0 ∧ L' = L) := by
  refine xf_enter (args := [_, _]) Try.func18 rfl Try.ntmps18 rfl ?_
  focus
    refine xc_seq ?_
    refine xc_region ?_
    refine xo_ef rfl (ef_box rfl fun r2 => ?_)
    refine xo_ef rfl (ef_box rfl fun r3 => ?_)
    refine xo_rd (rd_assign rfl) rfl ?_
    refine xo_nil ?_
    refine xq_seq ?_
    refine xc_seq ?_
    refine xc_seq ?_
    refine xc_region ?_
    refine xo_rd (rd_load1 rfl (Cl.o1 rfl)) rfl ?_
    refine xo_rd (rd_eqnil rfl) rfl ?_
    refine xo_nil ?_
    refine xq_seq ?_
    refine xc_condt rfl ?_
    refine xc_seq ?_
    refine xc_region ?_
    refine xo_rd (rd_assign rfl) rfl ?_
    refine xo_nil ?_
    refine xq_seq ?_
    refine xc_ret ?_
    refine xq_then_ret ?_
  exact xq_sub (List.sublist_append_right [_, _] _) (xq_ret1 (.inl rfl) Try.results18 rfl ⟨rfl, rfl⟩)
theorem xf_WaitingN {W : World} {L : List Blk} : XF Try.prog W 15 #[.pointer none] L (fun v L' => v = .slice none 0 0 ∧ L' = L) := by
  refine xf_enter (args := [_]) Try.func15 rfl Try.ntmps15 rfl ?_
  focus
    refine xc_seq ?_
    refine xc_region ?_
    refine xo_rd (rd_assign rfl) rfl ?_
    refine xo_nil ?_
    refine xq_seq ?_
    refine xc_seq ?_
    refine xc_region ?_
    refine xo_rd (rd_move rfl) rfl ?_
    refine xo_ef rfl (ef_call rfl (XF.mono (xf_thoseN _ rfl) ?_))
    rintro v L' ⟨rfl, rfl⟩
    refine xo_rd (rd_assign rfl) rfl ?_
    refine xo_nil ?_
    refine xq_seq ?_
    refine xc_ret ?_
  exact xq_ret1 (.inl rfl) Try.results15 rfl ⟨rfl, rfl⟩
theorem xf_TickN {W : World} {L : List Blk} (now : Int) : XF Try.prog W 8 #[.pointer none, .int .u64 now] L (fun v L' => v = .slice none 0 0 ∧ L' = L) := by
  refine xf_enter (args := [_, _]) Try.func8 rfl Try.ntmps8 rfl ?_
  focus
    refine xc_seq ?_
    refine xc_region ?_
    refine xo_ef rfl (ef_box rfl fun r2 => ?_)
    refine xo_ef rfl (ef_box rfl fun r3 => ?_)
    refine xo_rd (rd_assign rfl) rfl ?_
    refine xo_nil ?_
    refine xq_seq ?_
    refine xc_seq ?_
    refine xc_region ?_
    refine xo_rd (rd_load1 rfl (Cl.o1 rfl)) rfl ?_
    refine xo_rd (rd_makeFunc rfl rfl) rfl ?_
    refine xo_ef rfl (ef_call rfl (XF.mono (xf_thoseN _ rfl) ?_))
    rintro v L' ⟨rfl, rfl⟩
    refine xo_rd (rd_assign rfl) rfl ?_
    refine xo_nil ?_
    refine xq_seq ?_
    refine xc_seq ?_
    refine xc_seq ?_
    refine xc_region ?_
    refine xo_rd (rd_move rfl) rfl ?_
    refine xo_rd (rd_len rfl) rfl ?_
    refine xo_rd (rd_move rfl) rfl ?_
    refine xo_nil ?_
    refine xq_seq ?_
    refine xc_block ?_
  refine xc_loopK (ι := Unit) (fun _ => True) (fun _ => 0) (fun _ => [(5, .slice none 0 0), (11, .slice none 0 0), (12, .int .i64 0), (13, .int .i64 0)]) () trivial (by repeat (first | exact keep_nil | refine keep_cons rfl ?_)) ?_
  rintro ⟨⟩ _
  focus
    refine xc_seq ?_
    refine xc_region ?_
    refine xo_rd (rd_lss rfl rfl) rfl ?_
    refine xo_nil ?_
    refine xq_seq ?_
    refine xc_seq ?_
    refine xc_condf rfl ?_
    refine xc_exit ?_
    refine xq_then_exit ?_
    refine xq_then_exit ?_
    refine xq_block_hit ?_
    refine xq_seq ?_
    refine xc_seq ?_
    refine xc_region ?_
    refine xo_rd (rd_move rfl) rfl ?_
    refine xo_rd (rd_assign rfl) rfl ?_
    refine xo_nil ?_
    refine xq_seq ?_
    refine xc_ret ?_
  exact xq_sub (List.sublist_append_right [_, _] _) (xq_ret1 (.inl rfl) Try.results8 rfl ⟨rfl, rfl⟩)
theorem xf_AnsweredN {W : World} {L : List Blk} (q : Option Addr) (m c : Nat) : XF Try.prog W 9 #[.pointer none, .slice q m c] L (fun v L' => v = .tuple #[] ∧ L' = L) := by
  refine xf_enter (args := [_, _]) Try.func9 rfl Try.ntmps9 rfl ?_
  focus
    refine xc_seq ?_
    refine xc_region ?_
    refine xo_rd (rd_move rfl) rfl ?_
    refine xo_ef rfl (ef_call rfl (XF.mono (xf_WaitingN) ?_))
    rintro v L' ⟨rfl, rfl⟩
    refine xo_rd (rd_len rfl) rfl ?_
    refine xo_rd (rd_move rfl) rfl ?_
    refine xo_nil ?_
    refine xq_seq ?_
    refine xc_block ?_
  refine xc_loopK (ι := Unit) (fun _ => True) (fun _ => 0) (fun _ => [(9, .int .i64 0), (10, .int .i64 0)]) () trivial (by repeat (first | exact keep_nil | refine keep_cons rfl ?_)) ?_
  rintro ⟨⟩ _
  focus
    refine xc_seq ?_
    refine xc_region ?_
    refine xo_rd (rd_lss rfl rfl) rfl ?_
    refine xo_nil ?_
    refine xq_seq ?_
    refine xc_seq ?_
    refine xc_condf rfl ?_
    refine xc_exit ?_
    refine xq_then_exit ?_
    refine xq_then_exit ?_
    refine xq_block_hit ?_
  exact xq_ret0 (.inr rfl) Try.results9 ⟨rfl, rfl⟩
theorem xf_DropN {W : World} {L : List Blk} (q : Option Addr) (m c : Nat) : XF Try.prog W 12 #[.pointer none, .slice q m c] L (fun v L' => v = .tuple #[] ∧ L' = L) := by
  refine xf_enter (args := [_, _]) Try.func12 rfl Try.ntmps12 rfl ?_
  focus
    refine xc_seq ?_
    refine xc_seq ?_
    refine xc_region ?_
    refine xo_rd (rd_move rfl) rfl ?_
    refine xo_rd (rd_eqnil rfl) rfl ?_
    refine xo_nil ?_
    refine xq_seq ?_
    refine xc_condt rfl ?_
    refine xc_ret ?_
    refine xq_then_ret ?_
  exact xq_ret0 (.inl rfl) Try.results12 ⟨rfl, rfl⟩
theorem xf_LastN {W : World} {L : List Blk} (id : Int) : XF Try.prog W 13 #[.pointer none, .int .u32 id] L (fun v L' => v = .tuple #[.int .u64 0, .bool false] ∧ L' = L) := by
  refine xf_enter (args := [_, _]) Try.func13 rfl Try.ntmps13 rfl ?_
  focus
    refine xc_seq ?_
    refine xc_region ?_
    refine xo_rd (rd_assign rfl) rfl ?_
    refine xo_rd (rd_assign rfl) rfl ?_
    refine xo_nil ?_
    refine xq_seq ?_
    refine xc_seq ?_
    refine xc_seq ?_
    refine xc_region ?_
    refine xo_rd (rd_move rfl) rfl ?_
    refine xo_rd (rd_eqnil rfl) rfl ?_
    refine xo_nil ?_
    refine xq_seq ?_
    refine xc_condt rfl ?_
    refine xc_seq ?_
    refine xc_region ?_
    refine xo_rd (rd_assign rfl) rfl ?_
    refine xo_rd (rd_assign rfl) rfl ?_
    refine xo_nil ?_
    refine xq_seq ?_
    refine xc_ret ?_
    refine xq_then_ret ?_
  exact xq_ret2 (.inl rfl) Try.results13 rfl rfl ⟨rfl, rfl⟩
theorem xf_DueN {W : World} {L : List Blk} : XF Try.prog W 14 #[.pointer none] L (fun v L' => v = .tuple #[.int .u64 0, .bool false] ∧ L' = L) := by
  refine xf_enter (args := [_]) Try.func14 rfl Try.ntmps14 rfl ?_
  focus
    refine xc_seq ?_
    refine xc_region ?_
    refine xo_rd (rd_assign rfl) rfl ?_
    refine xo_rd (rd_assign rfl) rfl ?_
    refine xo_nil ?_
    refine xq_seq ?_
    refine xc_seq ?_
    refine xc_region ?_
    refine xo_rd (rd_move rfl) rfl ?_
    refine xo_ef rfl (ef_call rfl (XF.mono (xf_WaitingN) ?_))
    rintro v L' ⟨rfl, rfl⟩
    refine xo_rd (rd_assign rfl) rfl ?_
    refine xo_nil ?_
    refine xq_seq ?_
    refine xc_seq ?_
    refine xc_seq ?_
    refine xc_region ?_
    refine xo_rd (rd_move rfl) rfl ?_
    refine xo_rd (rd_len rfl) rfl ?_
    refine xo_rd (rd_eql rfl rfl) rfl ?_
    refine xo_nil ?_
    refine xq_seq ?_
    refine xc_condt rfl ?_
    refine xc_seq ?_
    refine xc_region ?_
    refine xo_rd (rd_assign rfl) rfl ?_
    refine xo_rd (rd_assign rfl) rfl ?_
    refine xo_nil ?_
    refine xq_seq ?_
    refine xc_ret ?_
    refine xq_then_ret ?_
  exact xq_ret2 (.inl rfl) Try.results14 rfl rfl ⟨rfl, rfl⟩
theorem xf_AskN {W : World} {L : List Blk} (id now : Int) : XF Try.prog W 10 #[.pointer none, .int .u32 id, .int .u64 now] L (fun v L' => v = .bool false ∧ L' = L) := by
  refine xf_enter (args := [_, _, _]) Try.func10 rfl Try.ntmps10 rfl ?_
  focus
    refine xc_seq ?_
    refine xc_region ?_
    refine xo_rd (rd_assign rfl) rfl ?_
    refine xo_nil ?_
    refine xq_seq ?_
    refine xc_seq ?_
    refine xc_seq ?_
    refine xc_region ?_
    refine xo_rd (rd_move rfl) rfl ?_
    refine xo_rd (rd_eqnil rfl) rfl ?_
    refine xo_nil ?_
    refine xq_seq ?_
    refine xc_condt rfl ?_
    refine xc_seq ?_
    refine xc_region ?_
    refine xo_rd (rd_assign rfl) rfl ?_
    refine xo_nil ?_
    refine xq_seq ?_
    refine xc_ret ?_
    refine xq_then_ret ?_
  exact xq_ret1 (.inl rfl) Try.results10 rfl ⟨rfl, rfl⟩
theorem xf_SentN {W : World} {L : List Blk} (id : Int) : XF Try.prog W 11 #[.pointer none, .int .u32 id] L (fun v L' => v = .int .u64 0 ∧ L' = L) := by
  refine xf_enter (args := [_, _]) Try.func11 rfl Try.ntmps11 rfl ?_
  focus
    refine xc_seq ?_
    refine xc_region ?_
    refine xo_rd (rd_assign rfl) rfl ?_
    refine xo_nil ?_
    refine xq_seq ?_
    refine xc_seq ?_
    refine xc_seq ?_
    refine xc_region ?_
    refine xo_rd (rd_move rfl) rfl ?_
    refine xo_rd (rd_eqnil rfl) rfl ?_
    refine xo_nil ?_
    refine xq_seq ?_
    refine xc_condt rfl ?_
    refine xc_seq ?_
    refine xc_region ?_
    refine xo_rd (rd_assign rfl) rfl ?_
    refine xo_nil ?_
    refine xq_seq ?_
    refine xc_ret ?_
    refine xq_then_ret ?_
  exact xq_ret1 (.inl rfl) Try.results11 rfl ⟨rfl, rfl⟩
set_option maxHeartbeats 1600000 in
theorem xf_None {W : World} (id now : Int) : XF Try.prog W 4 #[.int .u32 id, .int .u64 now] [] (fun v L' => v = .bool true) := by
  refine xf_enter (args := [_, _]) Try.func4 rfl Try.ntmps4 rfl ?_
  focus
    refine xc_seq ?_
    refine xc_region ?_
    refine xo_rd (rd_assign rfl) rfl ?_
    refine xo_nil ?_
    refine xq_seq ?_
    refine xc_seq ?_
    refine xc_region ?_
    refine xo_rd (rd_assign rfl) rfl ?_
    refine xo_nil ?_
    refine xq_seq ?_
    refine xc_seq ?_
    refine xc_region ?_
    refine xo_rd (rd_move rfl) rfl ?_
    refine xo_rd (rd_move rfl) rfl ?_
    refine xo_ef rfl (ef_buildL (T := 34) (len := 1) (s := 1) (cells := (ints .u32 [id]).toArray) rfl (by decide) (by decide) (by kernel_rfl) fun r12 => ?_)
    refine xo_ef rfl (ef_call rfl (XF.mono (xf_AnsweredN _ _ _) ?_))
    rintro v L' ⟨rfl, rfl⟩
    refine xo_nil ?_
    refine xq_seq ?_
    refine xc_seq ?_
    refine xc_region ?_
    refine xo_rd (rd_move rfl) rfl ?_
    refine xo_rd (rd_move rfl) rfl ?_
    refine xo_ef rfl (ef_buildL (T := 34) (len := 1) (s := 1) (cells := (ints .u32 [id]).toArray) rfl (by decide) (by decide) (by kernel_rfl) fun r12 => ?_)
    refine xo_ef rfl (ef_call rfl (XF.mono (xf_DropN _ _ _) ?_))
    rintro v L' ⟨rfl, rfl⟩
    refine xo_nil ?_
    refine xq_seq ?_
    refine xc_seq ?_
    refine xc_region ?_
    refine xo_rd (rd_move rfl) rfl ?_
    refine xo_rd (rd_move rfl) rfl ?_
    refine xo_ef rfl (ef_call rfl (XF.mono (xf_LastN id) ?_))
    rintro v L' ⟨rfl, rfl⟩
    refine xo_rd (rd_move rfl) rfl ?_
    refine xo_rd (rd_extract rfl rfl) rfl ?_
    refine xo_rd (rd_extract rfl rfl) rfl ?_
    refine xo_rd (rd_assign rfl) rfl ?_
    refine xo_rd (rd_assign rfl) rfl ?_
    refine xo_nil ?_
    refine xq_seq ?_
    refine xc_seq ?_
    refine xc_region ?_
    refine xo_rd (rd_move rfl) rfl ?_
    refine xo_ef rfl (ef_call rfl (XF.mono (xf_DueN) ?_))
    rintro v L' ⟨rfl, rfl⟩
    refine xo_rd (rd_move rfl) rfl ?_
    refine xo_rd (rd_extract rfl rfl) rfl ?_
    refine xo_rd (rd_extract rfl rfl) rfl ?_
    refine xo_rd (rd_assign rfl) rfl ?_
    refine xo_rd (rd_assign rfl) rfl ?_
    refine xo_nil ?_
    refine xq_seq ?_
    refine xc_seq ?_
    refine xc_region ?_
    refine xo_rd (rd_move rfl) rfl ?_
    refine xo_rd (rd_move rfl) rfl ?_
    refine xo_rd (rd_move rfl) rfl ?_
    refine xo_ef rfl (ef_call rfl (XF.mono (xf_AskN id now) ?_))
    rintro v L' ⟨rfl, rfl⟩
    refine xo_rd (rd_not rfl) rfl ?_
    refine xo_rd (rd_move rfl) rfl ?_
    refine xo_grd rfl rfl (rd_move rfl) rfl ?_
    refine xo_grd rfl rfl (rd_move rfl) rfl ?_
    refine xo_gef rfl rfl rfl (ef_call rfl (XF.mono (xf_TickN now) ?_))
    rintro v L' ⟨rfl, rfl⟩
    refine xo_grd rfl rfl (rd_len rfl) rfl ?_
    refine xo_grd rfl rfl (rd_eql rfl rfl) rfl ?_
    refine xo_rd (rd_pickt rfl rfl) rfl ?_
    refine xo_rd (rd_move rfl) rfl ?_
    refine xo_grd rfl rfl (rd_move rfl) rfl ?_
    refine xo_gef rfl rfl rfl (ef_call rfl (XF.mono (xf_WaitingN) ?_))
    rintro v L' ⟨rfl, rfl⟩
    refine xo_grd rfl rfl (rd_len rfl) rfl ?_
    refine xo_grd rfl rfl (rd_eql rfl rfl) rfl ?_
    refine xo_rd (rd_pickt rfl rfl) rfl ?_
    refine xo_rd (rd_move rfl) rfl ?_
    refine xo_grd rfl rfl (rd_move rfl) rfl ?_
    refine xo_grd rfl rfl (rd_eql rfl rfl) rfl ?_
    refine xo_rd (rd_pickt rfl rfl) rfl ?_
    refine xo_rd (rd_move rfl) rfl ?_
    refine xo_grd rfl rfl (rd_move rfl) rfl ?_
    refine xo_grd rfl rfl (rd_not rfl) rfl ?_
    refine xo_rd (rd_pickt rfl rfl) rfl ?_
    refine xo_rd (rd_move rfl) rfl ?_
    refine xo_grd rfl rfl (rd_move rfl) rfl ?_
    refine xo_grd rfl rfl (rd_move rfl) rfl ?_
    refine xo_gef rfl rfl rfl (ef_call rfl (XF.mono (xf_SentN id) ?_))
    rintro v L' ⟨rfl, rfl⟩
    refine xo_grd rfl rfl (rd_eql rfl rfl) rfl ?_
    refine xo_rd (rd_pickt rfl rfl) rfl ?_
    refine xo_rd (rd_move rfl) rfl ?_
    refine xo_grd rfl rfl (rd_move rfl) rfl ?_
    refine xo_grd rfl rfl (rd_eql rfl rfl) rfl ?_
    refine xo_rd (rd_pickt rfl rfl) rfl ?_
    refine xo_rd (rd_move rfl) rfl ?_
    refine xo_grd rfl rfl (rd_move rfl) rfl ?_
    refine xo_grd rfl rfl (rd_not rfl) rfl ?_
    refine xo_rd (rd_pickt rfl rfl) rfl ?_
    refine xo_rd (rd_move rfl) rfl ?_
    refine xo_gef rfl rfl rfl (ef_call rfl (XF.mono (xf_works) ?_))
    rintro v L' ⟨rfl, rfl⟩
    refine xo_rd (rd_pickt rfl rfl) rfl ?_
    refine xo_rd (rd_assign rfl) rfl ?_
    refine xo_nil ?_
    refine xq_seq ?_
    refine xc_ret ?_
  exact xq_ret1 (.inl rfl) Try.results4 rfl rfl
end Go.Proofs.Ytoolgphkfnkajaa.X
/-
  Chapter 23: at most once in a window; served at the latest when it ends: no program in sight, no condition.
-/
namespace Go.Proofs.Ytoolgphkfnkajaa.X
open Go Go.RowKit
set_option linter.unusedVariables false
set_option linter.unusedSimpArgs false
theorem srF_map (u : Sr → Sr) (hu : ∀ s, (u s).id = s.id) (l : List Sr) (z : Int) : srF (l.map u) z = (srF l z).map u := by
  induction l with
  | nil => rfl
  | cons x r ih =>
    rw [List.map_cons, srF_cons, srF_cons, hu, ih]
    split <;> rfl
theorem srF_id {l : List Sr} {z : Int} {s : Sr} (h : srF l z = some s) : s ∈ l ∧ s.id = z := by
  unfold srF at h
  exact ⟨List.mem_of_find?_eq_some h, by simpa using List.find?_some h⟩
theorem getS_none {l : List Sr} {z : Int} (h : srF l z = none) : getS l z = ⟨z, 0, 0, 0⟩ := by unfold getS; rw [h]; rfl
theorem getS_some {l : List Sr} {z : Int} {s : Sr} (h : srF l z = some s) : getS l z = s := by unfold getS; rw [h]; rfl
def tkU (w now : Int) (s : Sr) : Sr := if dueS w now s = true then askS w now s else s
theorem tkU_id (w now : Int) (s : Sr) : (tkU w now s).id = s.id := by
  unfold tkU
  split
  · exact askS_id ..
  · rfl
theorem tickL_map (w : Int) (l : List Sr) (now : Int) : tickL w l now = l.map (tkU w now) := rfl
theorem dueS_none (w now z : Int) : dueS w now ⟨z, 0, 0, 0⟩ = false := rfl
theorem getS_tick (w : Int) (l : List Sr) (now z : Int) : getS (tickL w l now) z = tkU w now (getS l z) := by
  rw [tickL_map]
  cases h : srF l z with
  | none =>
    rw [getS_none h, getS_none (by rw [srF_map _ (tkU_id w now), h]; rfl)]
    unfold tkU
    rw [if_neg (by rw [dueS_none]; decide)]
  | some s => rw [getS_some h, getS_some (s := tkU w now s) (by rw [srF_map _ (tkU_id w now), h]; rfl)]
def anU (az : List Int) (s : Sr) : Sr := if 0 < s.wt ∧ 0 ≤ ixOf az s.id then ansS s else s
theorem anU_id (az : List Int) (s : Sr) : (anU az s).id = s.id := by unfold anU; split <;> rfl
theorem getS_ans (az : List Int) (l : List Sr) (z : Int) : getS (ansA az l) z = anU az (getS l z) := by
  show getS (l.map (anU az)) z = _
  cases h : srF l z with
  | none =>
    rw [getS_none h, getS_none (by rw [srF_map _ (anU_id az), h]; rfl)]
    rfl
  | some s => rw [getS_some h, getS_some (s := anU az s) (by rw [srF_map _ (anU_id az), h]; rfl)]
theorem getS_ask {w : Int} {l : List Sr} (hp : (l.map Sr.id).Pairwise (· < ·)) (id now z : Int) : getS (askL w l id now) z = if z = id then askS w now (getS l id) else getS l z := by
  have h : srF (askL w l id now) z = _ := srF_put (askS w now (getS l id)) l z hp
  rw [askS_id, getS_id] at h
  by_cases hz : z = id
  · rw [if_pos hz] at h ⊢; exact getS_some h
  · rw [if_neg hz] at h ⊢
    unfold getS
    rw [h]
theorem tick0 {w now : Int} {l : List Sr} (hp : (l.map Sr.id).Pairwise (· < ·)) : (0 ∈ tickO w l now) ↔ dueS w now (getS l 0) = true := by
  constructor
  · intro h
    obtain ⟨s, hs, hi, hd⟩ := tickO_mem h
    rw [← hi, getS_mem hp hs]; exact hd
  · intro h
    cases hs : srF l 0 with
    | none => rw [getS_none hs, dueS_none] at h; cases h
    | some s =>
      rw [getS_some hs] at h
      obtain ⟨hm, hi⟩ := srF_id hs
      exact List.mem_map.2 ⟨s, List.mem_filter.2 ⟨hm, h⟩, hi⟩
/-- The first of those is 0 if it is among them. -/
theorem head0 {ds : List Int} (hp : ds.Pairwise (· < ·)) (h0 : ∀ d, d ∈ ds → 0 ≤ d) : (0 < ds.length ∧ ds.getD 0 1 = 0) ↔ 0 ∈ ds := by
  cases ds with
  | nil => simp
  | cons x r =>
    constructor
    · rintro ⟨_, h⟩
      have : x = 0 := h
      subst this; exact List.mem_cons_self
    · intro h
      refine ⟨by simp, ?_⟩
      show x = 0
      rcases List.mem_cons.1 h with h | h
      · exact h.symm
      · have h1 := (List.pairwise_cons.1 hp).1 0 h
        have h2 := h0 x List.mem_cons_self
        omega
structure OnI (w : Int) (lr la : List Sr) (ask wan : List Int) (now t : Int) : Prop where
  so : (lr.map Sr.id).Pairwise (· < ·)
  sa : (la.map Sr.id).Pairwise (· < ·)
  i3 : ∀ s, s ∈ lr → 0 ≤ s.id ∧ s.id ≤ 2
  i1 : ∀ s, s ∈ la → s.id = 0
  e0 : getS la 0 = getS lr 0
  sn : (getS lr 0).sent = ask.length
  al : ask ≠ [] → (getS lr 0).last = ask.getD (ask.length - 1) 0
  gp : ∀ i, i + 1 < ask.length → w ≤ ask.getD (i + 1) 0 - ask.getD i 0
  nn : ∀ x, x ∈ ask → 0 ≤ x ∧ x ≤ now
  ln : 0 ≤ (getS lr 0).last ∧ (getS lr 0).last ≤ now
  wt : wan ≠ [] ↔ 0 < (getS lr 0).wt
  wh : wan ≠ [] → (getS lr 0).last ≤ wan.getD 0 0 ∧ wan.getD 0 0 ≤ now
  bd : ∀ s, s ∈ lr → s.sent ≤ t
  ba : ∀ s, s ∈ la → s.sent ≤ t
theorem OnI.new {w : Int} : OnI w [] [] [] [] 0 0 :=
  ⟨List.Pairwise.nil, List.Pairwise.nil, (fun s h => by cases h), (fun s h => by cases h), rfl, rfl, (fun h => absurd rfl h), (fun i h => by simp at h), (fun x h => by cases h), ⟨Int.le_refl 0, Int.le_refl 0⟩, ⟨fun h => absurd rfl h, fun h => by cases h⟩, (fun h => absurd rfl h), (fun s h => by cases h), (fun s h => by cases h)⟩
theorem getD_snoc {l : List Int} {x : Int} {i : Nat} : (l ++ [x]).getD i 0 = if i = l.length then x else l.getD i 0 := by
  rw [List.getD_eq_getElem?_getD, List.getD_eq_getElem?_getD]
  by_cases h : i = l.length
  · subst h; simp
  · rw [if_neg h]
    by_cases h2 : i < l.length
    · rw [List.getElem?_append_left h2]
    · rw [List.getElem?_eq_none (by simp; omega), List.getElem?_eq_none (by omega)]
theorem gp_snoc {w : Int} {ask : List Int} {x : Int} (h : ∀ i, i + 1 < ask.length → w ≤ ask.getD (i + 1) 0 - ask.getD i 0) (hx : ask ≠ [] → w ≤ x - ask.getD (ask.length - 1) 0) : ∀ i, i + 1 < (ask ++ [x]).length → w ≤ (ask ++ [x]).getD (i + 1) 0 - (ask ++ [x]).getD i 0 := fun i hi => by
  rw [List.length_append, List.length_singleton] at hi
  rw [getD_snoc, getD_snoc]
  by_cases h1 : i + 1 = ask.length
  · rw [if_pos h1, if_neg (by omega)]
    have h2 := hx (by rintro rfl; simp at h1)
    have h3 : ask.length - 1 = i := by omega
    rw [h3] at h2; exact h2
  · rw [if_neg h1, if_neg (by omega)]
    exact h i (by omega)
/-- The source is asked now: what then holds of all rows. -/
theorem may_gap {w now : Int} {s : Sr} {ask : List Int} (hm : mayB w s now = true) (sn : s.sent = ask.length) (al : ask ≠ [] → s.last = ask.getD (ask.length - 1) 0) : ask ≠ [] → w ≤ now - ask.getD (ask.length - 1) 0 := fun h => by
  have hl : 0 < ask.length := List.length_pos_iff.2 h
  rw [← al h]
  unfold mayB at hm
  simp only [Bool.or_eq_true, decide_eq_true_eq, Bool.and_eq_true] at hm
  omega
theorem tkU_sent {w now t : Int} {s : Sr} (h : s.sent ≤ t) : (tkU w now s).sent ≤ t + 1 := by
  unfold tkU askS
  split
  · split <;> dsimp only <;> omega
  · omega
theorem OnI.tick {w : Int} {lr la : List Sr} {ask wan : List Int} {now t : Int} (h : OnI w lr la ask wan now t) (hn : 0 ≤ now) (m : Bool) (hm : dueS w (now + 1) (getS lr 0) = m) :
    OnI w (tickL w lr (now + 1)) (tickL w la (now + 1)) (if m = true then ask ++ [now + 1] else ask) (if m = true then [] else wan) (now + 1) (t + 1) ∧ (m = false → wan ≠ [] → now + 1 - (getS lr 0).last < w) := by
  have hmw : 0 < (getS lr 0).wt → m = mayB w (getS lr 0) (now + 1) := fun h => by
    rw [← hm]; unfold dueS; rw [decide_eq_true h]; rfl
  refine ⟨⟨?_, ?_, ?_, ?_, ?_, ?_, ?_, ?_, ?_, ?_, ?_, ?_, ?_, ?_⟩, ?_⟩
  · rw [← tickL_step h.so, stepM_ids]; exact h.so
  · rw [← tickL_step h.sa, stepM_ids]; exact h.sa
  · intro s hs
    obtain ⟨y, hy, rfl⟩ := List.mem_map.1 hs
    have := h.i3 y hy
    rwa [← tkU_id w (now + 1) y] at this
  · intro s hs
    obtain ⟨y, hy, rfl⟩ := List.mem_map.1 hs
    have := h.i1 y hy
    rwa [← tkU_id w (now + 1) y] at this
  · rw [getS_tick, getS_tick, h.e0]
  all_goals try rw [getS_tick]
  all_goals try unfold tkU
  all_goals try rw [hm]
  · cases m with
    | false => exact h.sn
    | true =>
      have hmay : mayB w (getS lr 0) (now + 1) = true := by unfold dueS at hm; simp only [Bool.and_eq_true] at hm; exact hm.2
      simp only [if_true]
      unfold askS
      rw [if_pos hmay, List.length_append, List.length_singleton]
      dsimp only
      rw [h.sn]; rfl
  · cases m with
    | false => exact h.al
    | true =>
      have hmay : mayB w (getS lr 0) (now + 1) = true := by unfold dueS at hm; simp only [Bool.and_eq_true] at hm; exact hm.2
      simp only [if_true]
      unfold askS
      rw [if_pos hmay, getD_snoc, List.length_append, List.length_singleton]
      intro _
      rw [if_pos (by omega)]
  · cases m with
    | false => exact h.gp
    | true =>
      have hmay : mayB w (getS lr 0) (now + 1) = true := by unfold dueS at hm; simp only [Bool.and_eq_true] at hm; exact hm.2
      simp only [if_true]
      exact gp_snoc h.gp (may_gap hmay h.sn h.al)
  · intro x hx
    cases m with
    | false => have := h.nn x hx; omega
    | true =>
      rcases List.mem_append.1 hx with h1 | h1
      · have := h.nn x h1; omega
      · rw [List.mem_singleton.1 h1]; omega
  · have := h.ln
    cases m with
    | false => simp only [Bool.false_eq_true, if_false]; omega
    | true =>
      simp only [if_true]
      unfold askS
      split <;> dsimp only <;> omega
  · cases m with
    | false => exact h.wt
    | true =>
      have hmay : mayB w (getS lr 0) (now + 1) = true := by unfold dueS at hm; simp only [Bool.and_eq_true] at hm; exact hm.2
      simp only [if_true]
      unfold askS
      rw [if_pos hmay]
      exact ⟨fun h => absurd rfl h, fun h => by cases h⟩
  · cases m with
    | false => intro hw; have := h.wh hw; simp only [Bool.false_eq_true, if_false]; omega
    | true => intro hw; exact absurd rfl hw
  · intro s hs
    obtain ⟨y, hy, rfl⟩ := List.mem_map.1 hs
    exact tkU_sent (h.bd y hy)
  · intro s hs
    obtain ⟨y, hy, rfl⟩ := List.mem_map.1 hs
    exact tkU_sent (h.ba y hy)
  · intro hf hw
    have h1 := hmw (h.wt.1 hw)
    rw [hf] at h1
    unfold mayB at h1
    have h2 := h.ln
    have h3 := h1.symm
    simp only [Bool.or_eq_false_iff, decide_eq_false_iff_not, Bool.and_eq_false_iff] at h3
    omega
end Go.Proofs.Ytoolgphkfnkajaa.X
/-
  Chapter 23: who is answered, who asks: what still holds: no program in sight, no condition.
-/
namespace Go.Proofs.Ytoolgphkfnkajaa.X
open Go Go.RowKit
set_option linter.unusedVariables false
set_option linter.unusedSimpArgs false
theorem ixOf_one {x y : Int} : 0 ≤ ixOf [x] y ↔ y = x := by
  unfold ixOf
  by_cases h : y = x
  · subst h; simp
  · have : (x == y) = false := by simpa using fun e => h e.symm
    simp [List.findIdx?_cons, this, h]
theorem OnI.ansR {w : Int} {lr la : List Sr} {ask wan : List Int} {now t : Int} (h : OnI w lr la ask wan now t) (k : Int) (hk : k ≠ 0) : OnI w (ansA [k] lr) la ask wan now t := by
  have hg : getS (ansA [k] lr) 0 = getS lr 0 := by
    rw [getS_ans]
    unfold anU
    rw [if_neg]
    rintro ⟨_, h2⟩
    rw [getS_id] at h2
    exact hk (ixOf_one.1 h2).symm
  have hi : (ansA [k] lr).map Sr.id = lr.map Sr.id := by
    unfold ansA
    rw [List.map_map]
    exact List.map_congr_left fun s _ => anU_id [k] s
  refine ⟨by rw [hi]; exact h.so, h.sa, ?_, h.i1, by rw [hg]; exact h.e0, by rw [hg]; exact h.sn, by rw [hg]; exact h.al, h.gp, h.nn, by rw [hg]; exact h.ln, by rw [hg]; exact h.wt, by rw [hg]; exact h.wh, ?_, h.ba⟩
  · intro s hs
    obtain ⟨y, hy, rfl⟩ := List.mem_map.1 hs
    have := h.i3 y hy
    rwa [← anU_id [k] y] at this
  · intro s hs
    obtain ⟨y, hy, rfl⟩ := List.mem_map.1 hs
    have := h.bd y hy
    show (anU [k] y).sent ≤ t
    unfold anU ansS
    split <;> exact this
theorem OnI.ans0 {w : Int} {lr la : List Sr} {ask wan : List Int} {now t : Int} (h : OnI w lr la ask wan now t) : OnI w (ansA [0] lr) (ansA [0] la) ask [] now t := by
  have hg : ∀ l, getS (ansA [0] l) 0 = ⟨0, (getS l 0).last, (getS l 0).sent, if 0 < (getS l 0).wt then 0 else (getS l 0).wt⟩ := fun l => by
    rw [getS_ans]
    unfold anU ansS
    have hi := getS_id l 0
    by_cases hw : 0 < (getS l 0).wt
    · rw [if_pos ⟨hw, ixOf_one.2 hi⟩, if_pos hw, hi]
    · rw [if_neg (fun h => hw h.1), if_neg hw]
      generalize getS l 0 = s at *
      obtain ⟨a, b, c, d⟩ := s
      dsimp only at hi ⊢
      rw [hi]
  have hi : ∀ l, (ansA [0] l).map Sr.id = l.map Sr.id := fun l => by
    unfold ansA
    rw [List.map_map]
    exact List.map_congr_left fun s _ => anU_id [0] s
  refine ⟨by rw [hi]; exact h.so, by rw [hi]; exact h.sa, ?_, ?_, by rw [hg, hg, h.e0], by rw [hg]; exact h.sn, by rw [hg]; exact h.al, h.gp, h.nn, by rw [hg]; exact h.ln, ?_, (fun hw => absurd rfl hw), ?_, ?_⟩
  · intro s hs
    obtain ⟨y, hy, rfl⟩ := List.mem_map.1 hs
    have := h.i3 y hy
    rwa [← anU_id [0] y] at this
  · intro s hs
    obtain ⟨y, hy, rfl⟩ := List.mem_map.1 hs
    have := h.i1 y hy
    rwa [← anU_id [0] y] at this
  · rw [hg]
    refine ⟨fun h => absurd rfl h, fun h2 => ?_⟩
    dsimp only at h2
    split at h2 <;> omega
  · intro s hs
    obtain ⟨y, hy, rfl⟩ := List.mem_map.1 hs
    have := h.bd y hy
    show (anU [0] y).sent ≤ t
    unfold anU ansS
    split <;> exact this
  · intro s hs
    obtain ⟨y, hy, rfl⟩ := List.mem_map.1 hs
    have := h.ba y hy
    show (anU [0] y).sent ≤ t
    unfold anU ansS
    split <;> exact this
theorem ask_bd {w now t : Int} {l : List Sr} (id : Int) (h : ∀ s, s ∈ l → s.sent ≤ t) (ht : 0 ≤ t) : ∀ s, s ∈ askL w l id now → s.sent ≤ t + 1 := fun s hs => by
  rcases put_mem hs with rfl | hs
  · have : (getS l id).sent ≤ t := by
      cases hf : srF l id with
      | none => rw [getS_none hf]; exact ht
      | some y => rw [getS_some hf]; exact h y (srF_id hf).1
    unfold askS
    split <;> dsimp only <;> omega
  · have := h s hs; omega
theorem OnI.up {w : Int} {lr la : List Sr} {ask wan : List Int} {now t : Int} (h : OnI w lr la ask wan now t) : OnI w lr la ask wan now (t + 1) :=
  ⟨h.so, h.sa, h.i3, h.i1, h.e0, h.sn, h.al, h.gp, h.nn, h.ln, h.wt, h.wh, (fun s hs => by have := h.bd s hs; omega), (fun s hs => by have := h.ba s hs; omega)⟩
theorem OnI.askR {w : Int} {lr la : List Sr} {ask wan : List Int} {now t : Int} (h : OnI w lr la ask wan now t) (ht : 0 ≤ t) (k : Int) (hk : 0 < k ∧ k ≤ 2) : OnI w (askL w lr k now) la ask wan now (t + 1) := by
  have hg : getS (askL w lr k now) 0 = getS lr 0 := by rw [getS_ask h.so, if_neg (by omega)]
  refine ⟨put_sorted h.so, h.sa, ?_, h.i1, by rw [hg]; exact h.e0, by rw [hg]; exact h.sn, by rw [hg]; exact h.al, h.gp, h.nn, by rw [hg]; exact h.ln, by rw [hg]; exact h.wt, by rw [hg]; exact h.wh, ask_bd k h.bd ht, (fun s hs => by have := h.ba s hs; omega)⟩
  intro s hs
  rcases put_mem hs with rfl | hs
  · rw [askS_id, getS_id]; omega
  · exact h.i3 s hs
theorem OnI.ask0 {w : Int} {lr la : List Sr} {ask wan : List Int} {now t : Int} (h : OnI w lr la ask wan now t) (ht : 0 ≤ t) (hn : 0 ≤ now) (b : Bool) (hb : mayB w (getS lr 0) now = b) :
    OnI w (askL w lr 0 now) (askL w la 0 now) (if b = true then ask ++ [now] else ask) (if b = true then [] else wan ++ [now]) now (t + 1) := by
  have hg : getS (askL w lr 0 now) 0 = askS w now (getS lr 0) := by rw [getS_ask h.so, if_pos rfl]
  have hga : getS (askL w la 0 now) 0 = askS w now (getS lr 0) := by rw [getS_ask h.sa, if_pos rfl, h.e0]
  have hu : askS w now (getS lr 0) = if b = true then ⟨(getS lr 0).id, now, (getS lr 0).sent + 1, 0⟩ else ⟨(getS lr 0).id, (getS lr 0).last, (getS lr 0).sent, 1⟩ := by unfold askS; rw [hb]
  refine ⟨put_sorted h.so, put_sorted h.sa, ?_, ?_, by rw [hg, hga], ?_, ?_, ?_, ?_, ?_, ?_, ?_, ask_bd 0 h.bd ht, ask_bd 0 h.ba ht⟩
  · intro s hs
    rcases put_mem hs with rfl | hs
    · rw [askS_id, getS_id]; omega
    · exact h.i3 s hs
  · intro s hs
    rcases put_mem hs with rfl | hs
    · rw [askS_id, getS_id]
    · exact h.i1 s hs
  all_goals try rw [hg, hu]
  · cases b with
    | false => exact h.sn
    | true => simp only [if_true]; rw [List.length_append, List.length_singleton, h.sn]; rfl
  · cases b with
    | false => exact h.al
    | true =>
      simp only [if_true]
      rw [getD_snoc, List.length_append, List.length_singleton]
      intro _
      rw [if_pos (by omega)]
  · cases b with
    | false => exact h.gp
    | true => simp only [if_true]; exact gp_snoc h.gp (may_gap hb h.sn h.al)
  · intro x hx
    cases b with
    | false => exact h.nn x hx
    | true =>
      rcases List.mem_append.1 hx with h1 | h1
      · exact h.nn x h1
      · rw [List.mem_singleton.1 h1]; omega
  · have := h.ln
    cases b with
    | false => exact this
    | true => simp only [if_true]; omega
  · cases b with
    | false =>
      simp only [Bool.false_eq_true, if_false]
      exact ⟨fun _ => by decide, fun _ => by simp⟩
    | true =>
      simp only [if_true]
      exact ⟨fun h => absurd rfl h, fun h => by cases h⟩
  · cases b with
    | true => intro hw; exact absurd rfl hw
    | false =>
      intro _
      simp only [Bool.false_eq_true, if_false]
      have hl := h.ln
      cases hw : wan with
      | nil => exact ⟨hl.2, Int.le_refl _⟩
      | cons x r =>
        have := h.wh (by rw [hw]; simp)
        rw [hw] at this
        exact this
theorem nodup_le2 : ∀ {l m : List Int}, l.Nodup → (∀ x, x ∈ l → x ∈ m) → l.length ≤ m.length
  | [], m, _, _ => Nat.zero_le _
  | x :: r, m, hn, hs => by
    rw [List.nodup_cons] at hn
    have hx := hs x List.mem_cons_self
    have h1 := nodup_le2 (l := r) (m := m.erase x) hn.2 (fun y hy => (List.mem_erase_of_ne (fun e => hn.1 (by rw [← e]; exact hy))).2 (hs y (List.mem_cons_of_mem _ hy)))
    rw [List.length_erase_of_mem hx] at h1
    have := List.length_pos_of_mem hx
    rw [List.length_cons]; omega
/-- Few sources. -/
theorem OnI.len {w : Int} {lr la : List Sr} {ask wan : List Int} {now t : Int} (h : OnI w lr la ask wan now t) : lr.length ≤ 3 ∧ la.length ≤ 1 := by
  have nd : ∀ {l : List Sr}, (l.map Sr.id).Pairwise (· < ·) → (l.map Sr.id).Nodup := fun h => h.imp fun h => by omega
  have sub : ∀ {l m : List Int}, l.Nodup → (∀ x, x ∈ l → x ∈ m) → l.length ≤ m.length := fun {l m} hn hs => nodup_le2 hn hs
  have h1 := sub (m := [0, 1, 2]) (nd h.so) (fun x hx => by
    obtain ⟨s, hs, rfl⟩ := List.mem_map.1 hx
    have := h.i3 s hs
    have : s.id = 0 ∨ s.id = 1 ∨ s.id = 2 := by omega
    simpa using this)
  have h2 := sub (m := [0]) (nd h.sa) (fun x hx => by
    obtain ⟨s, hs, rfl⟩ := List.mem_map.1 hx
    simpa using h.i1 s hs)
  rw [List.length_map] at h1 h2
  exact ⟨h1, h2⟩
end Go.Proofs.Ytoolgphkfnkajaa.X
/-
  Chapter 23: two requesters side by side: walks of my own, told of both.
-/
namespace Go.Proofs.Ytoolgphkfnkajaa.X
open Go Go.RowKit
set_option linter.unusedVariables false
set_option linter.unusedSimpArgs false
/-- Two requesters. -/
def rq2 (w : Int) (r mb : Nat) (mo : Obj) (ra mba : Nat) (moa : Obj) (R : List Blk) : List Blk := rqB w r mb mo (rqB w ra mba moa R)
theorem rq2_first (w : Int) (r mb : Nat) (mo : Obj) (ra mba : Nat) (moa : Obj) (R K : List Blk) : (K ++ rq2 w r mb mo ra mba moa R).Perm (rqB w r mb mo (K ++ rqB w ra mba moa R)) := rqB_front w r mb mo K _
theorem rq2_second (w : Int) (r mb : Nat) (mo : Obj) (ra mba : Nat) (moa : Obj) (R K : List Blk) : (K ++ rq2 w r mb mo ra mba moa R).Perm (rqB w ra mba moa (K ++ ([(r, .cells #[.int .u64 w, .map (some mb)] 48 (0, 0)), (mb, mo)] ++ R))) := by
  have h : rq2 w r mb mo ra mba moa R = [(r, .cells #[.int .u64 w, .map (some mb)] 48 (0, 0)), (mb, mo)] ++ rqB w ra mba moa R := rfl
  rw [h, ← List.append_assoc, ← List.append_assoc]
  exact rqB_front w ra mba moa _ R
section
variable {W : World} {R : List Blk} (K : List Blk) (w : Int) (r mb : Nat) (mo : Obj) (ra mba : Nat) (moa : Obj)
theorem ask_1 (l l2 : List Sr) (hx : RqOk w mo l) (id now : Int) (h : askL w l id now = l2) (hid : 0 ≤ id ∧ id ≤ 4294967295) (hn : 0 ≤ now ∧ now ≤ 18446744073709551615) (hs : (getS l id).sent < big) (h12 : l2.length ≤ 12) (b : Bool) (hb : mayB w (getS l id) now = b) :
    XF Try.prog W 10 #[.pointer (some ⟨r, 0, none⟩), .int .u32 id, .int .u64 now] (K ++ rq2 w r mb mo ra mba moa R) (fun v L' => v = .bool b ∧ ∃ mo', RqOk w mo' l2 ∧ L' = K ++ rq2 w r mb mo' ra mba moa R) :=
  ((xf_AskK w r mb mo l l2 hx id now h hid hn hs h12 b hb).perm (rq2_first w r mb mo ra mba moa R K)).mapK fun v L' ⟨hv, mo', hok, hL⟩ => ⟨_, hL ▸ (rq2_first w r mb mo' ra mba moa R K).symm, hv, mo', hok, rfl⟩
theorem ask_2 (l l2 : List Sr) (hx : RqOk w moa l) (id now : Int) (h : askL w l id now = l2) (hid : 0 ≤ id ∧ id ≤ 4294967295) (hn : 0 ≤ now ∧ now ≤ 18446744073709551615) (hs : (getS l id).sent < big) (h12 : l2.length ≤ 12) (b : Bool) (hb : mayB w (getS l id) now = b) :
    XF Try.prog W 10 #[.pointer (some ⟨ra, 0, none⟩), .int .u32 id, .int .u64 now] (K ++ rq2 w r mb mo ra mba moa R) (fun v L' => v = .bool b ∧ ∃ moa', RqOk w moa' l2 ∧ L' = K ++ rq2 w r mb mo ra mba moa' R) :=
  ((xf_AskK w ra mba moa l l2 hx id now h hid hn hs h12 b hb).perm (rq2_second w r mb mo ra mba moa R K)).mapK fun v L' ⟨hv, mo', hok, hL⟩ => ⟨_, hL ▸ (rq2_second w r mb mo ra mba mo' R K).symm, hv, mo', hok, rfl⟩
theorem tick_1 (l l2 : List Sr) (hx : RqOk w mo l) (now : Int) (ds : List Int) (h : tickL w l now = l2) (hd : tickO w l now = ds) (hn : 0 ≤ now ∧ now ≤ 18446744073709551615) (hs : ∀ s, s ∈ l → s.sent < big) :
    XF Try.prog W 8 #[.pointer (some ⟨r, 0, none⟩), .int .u64 now] (K ++ rq2 w r mb mo ra mba moa R) (fun v L' => ∃ p k lo mo', v = .slice p ds.length k ∧ SlQ 1 30 (.slice p ds.length k) ds.length (ints .u32 ds) lo ∧ RqOk w mo' l2 ∧ L' = lo ++ (K ++ rq2 w r mb mo' ra mba moa R)) :=
  ((xf_TickK w r mb mo l l2 hx now ds h hd hn hs).perm (rq2_first w r mb mo ra mba moa R K)).mapK fun v L' ⟨p, k, lo, mo', hv, hO, hok, hL⟩ => ⟨_, hL ▸ ((rq2_first w r mb mo' ra mba moa R K).symm.append_left lo), p, k, lo, mo', hv, hO, hok, rfl⟩
theorem tick_2 (K1 : List Blk) (l l2 : List Sr) (hx : RqOk w moa l) (now : Int) (ds : List Int) (h : tickL w l now = l2) (hd : tickO w l now = ds) (hn : 0 ≤ now ∧ now ≤ 18446744073709551615) (hs : ∀ s, s ∈ l → s.sent < big) :
    XF Try.prog W 8 #[.pointer (some ⟨ra, 0, none⟩), .int .u64 now] (K1 ++ (K ++ rq2 w r mb mo ra mba moa R)) (fun v L' => ∃ p k lo moa', v = .slice p ds.length k ∧ SlQ 1 30 (.slice p ds.length k) ds.length (ints .u32 ds) lo ∧ RqOk w moa' l2 ∧ L' = lo ++ (K1 ++ (K ++ rq2 w r mb mo ra mba moa' R))) := by
  have h1 := fun moa => rq2_second w r mb mo ra mba moa R (K1 ++ K)
  simp only [List.append_assoc] at h1
  exact ((xf_TickK w ra mba moa l l2 hx now ds h hd hn hs).perm (h1 moa)).mapK fun v L' ⟨p, k, lo, mo', hv, hO, hok, hL⟩ => ⟨_, hL ▸ ((h1 mo').symm.append_left lo), p, k, lo, mo', hv, hO, hok, rfl⟩
theorem ans_1 (l l2 : List Sr) (hx : RqOk w mo l) (q : Nat) (x : Int) (h : ansA [x] l = l2) (hq : (q, Obj.cells (ints .u32 [x]).toArray 30 (0, 0)) ∈ K) :
    XF Try.prog W 9 #[.pointer (some ⟨r, 0, none⟩), .slice (some ⟨q, 0, none⟩) 1 1] (K ++ rq2 w r mb mo ra mba moa R) (fun v L' => v = .tuple #[] ∧ ∃ mo', RqOk w mo' l2 ∧ L' = K ++ rq2 w r mb mo' ra mba moa R) := by
  subst h
  have hr : ∀ mo', Rs W (rqB w r mb mo' (K ++ rqB w ra mba moa R)) (some ⟨q, 0, none⟩) (ints .u32 [x]) := fun mo' => Rs.fresh (vs := ints .u32 [x]) (T := 30) (fr := (0, 0)) (List.mem_cons_of_mem _ (List.mem_cons_of_mem _ (List.mem_append_left _ hq)))
  exact ((xf_Answered w r mb mo l hx (some ⟨q, 0, none⟩) 1 1 [x] rfl (hr mo) hr (by decide)).perm (rq2_first w r mb mo ra mba moa R K)).mapK fun v L' ⟨hv, mo', hok, hL⟩ => ⟨_, hL ▸ (rq2_first w r mb mo' ra mba moa R K).symm, hv, mo', hok, rfl⟩
theorem ans_2 (l l2 : List Sr) (hx : RqOk w moa l) (q : Nat) (x : Int) (h : ansA [x] l = l2) (hq : (q, Obj.cells (ints .u32 [x]).toArray 30 (0, 0)) ∈ K) :
    XF Try.prog W 9 #[.pointer (some ⟨ra, 0, none⟩), .slice (some ⟨q, 0, none⟩) 1 1] (K ++ rq2 w r mb mo ra mba moa R) (fun v L' => v = .tuple #[] ∧ ∃ moa', RqOk w moa' l2 ∧ L' = K ++ rq2 w r mb mo ra mba moa' R) := by
  subst h
  have hr : ∀ moa', Rs W (rqB w ra mba moa' (K ++ ([(r, .cells #[.int .u64 w, .map (some mb)] 48 (0, 0)), (mb, mo)] ++ R))) (some ⟨q, 0, none⟩) (ints .u32 [x]) := fun moa' => Rs.fresh (vs := ints .u32 [x]) (T := 30) (fr := (0, 0)) (List.mem_cons_of_mem _ (List.mem_cons_of_mem _ (List.mem_append_left _ hq)))
  exact ((xf_Answered w ra mba moa l hx (some ⟨q, 0, none⟩) 1 1 [x] rfl (hr moa) hr (by decide)).perm (rq2_second w r mb mo ra mba moa R K)).mapK fun v L' ⟨hv, mo', hok, hL⟩ => ⟨_, hL ▸ (rq2_second w r mb mo ra mba mo' R K).symm, hv, mo', hok, rfl⟩
theorem sent_1 (l : List Sr) (hx : RqOk w mo l) (id x : Int) (h : (getS l id).sent = x) :
    XF Try.prog W 11 #[.pointer (some ⟨r, 0, none⟩), .int .u32 id] (K ++ rq2 w r mb mo ra mba moa R) (fun v L' => v = .int .u64 x ∧ L' = K ++ rq2 w r mb mo ra mba moa R) := by
  subst h
  exact (xf_Sent w r mb mo l hx id).permK (rq2_first w r mb mo ra mba moa R K)
end
/-- What is told of a tick's sources. -/
theorem tick_told {w now : Int} {lr la : List Sr} {ask wan : List Int} {n0 t : Int} (h : OnI w lr la ask wan n0 t) (m : Bool) (hm : dueS w now (getS lr 0) = m) :
    (m = true → ∃ rest, tickO w lr now = 0 :: rest) ∧ (m = false → tickO w lr now = [] ∨ ∃ x rest, tickO w lr now = x :: rest ∧ x ≠ 0) ∧ (m = true → (tickO w la now).length ≠ 0) ∧ (m = false → tickO w la now = []) := by
  have hp : ∀ {l : List Sr}, (l.map Sr.id).Pairwise (· < ·) → (tickO w l now).Pairwise (· < ·) := fun h => h.sublist (List.filter_sublist.map _)
  have h0 : ∀ d, d ∈ tickO w lr now → 0 ≤ d := fun d hd => by obtain ⟨s, hs, rfl, _⟩ := tickO_mem hd; exact (h.i3 s hs).1
  have ha : ∀ d, d ∈ tickO w la now → d = 0 := fun d hd => by obtain ⟨s, hs, rfl, _⟩ := tickO_mem hd; exact h.i1 s hs
  have t1 := tick0 (w := w) (now := now) h.so
  have t2 := tick0 (w := w) (now := now) h.sa
  rw [h.e0, hm] at t2
  rw [hm] at t1
  have t3 := head0 (hp h.so) h0
  refine ⟨fun e => ?_, fun e => ?_, fun e => ?_, fun e => ?_⟩
  · have := t3.2 (t1.2 e)
    cases hd : tickO w lr now with
    | nil => rw [hd] at this; simp at this
    | cons x r =>
      rw [hd] at this
      have h2 : x = 0 := this.2
      exact ⟨r, by rw [h2]⟩
  · cases hd : tickO w lr now with
    | nil => exact .inl rfl
    | cons x r =>
      refine .inr ⟨x, r, rfl, fun hx => ?_⟩
      have := t1.1 (by rw [hd, hx]; exact List.mem_cons_self)
      rw [e] at this; cases this
  · intro hl
    have := t2.2 e
    rw [List.length_eq_zero_iff.1 hl] at this; cases this
  · cases hd : tickO w la now with
    | nil => rfl
    | cons x r =>
      have hx := ha x (by rw [hd]; exact List.mem_cons_self)
      have := t2.1 (by rw [hd, hx]; exact List.mem_cons_self)
      rw [e] at this; cases this
theorem OnI.alen {w : Int} {lr la : List Sr} {ask wan : List Int} {now t : Int} (h : OnI w lr la ask wan now t) (ht : 0 ≤ t) : (ask.length : Int) ≤ t := by
  rw [← h.sn]
  cases hf : srF lr 0 with
  | none => rw [getS_none hf]; exact ht
  | some s => rw [getS_some hf]; exact h.bd s (srF_id hf).1
/-- A call that comes. -/
structure Ac where
  d : Int
  src : Int
  by' : Int
def Ac.enc (a : Ac) : List Value := [.int .i64 a.d, .int .u32 a.src, .int .u16 a.by']
theorem Ac.len (a : Ac) : a.enc.length = 3 := rfl
end Go.Proofs.Ytoolgphkfnkajaa.X
