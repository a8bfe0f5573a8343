/-
  Chapter 23: a tick; who is answered: walks of my own.
-/
import Derived.Test.YtoolgphkfnkajaaA8
namespace Go.Proofs.Ytoolgphkfnkajaa.X
open Go Go.RowKit
set_option linter.unusedVariables false
set_option linter.unusedSimpArgs false
/-- Where a round over sources stands. -/
structure TkS where
  i : Nat
  mo : Obj
theorem tickO_mem {w now : Int} {l : List Sr} {d : Int} (h : d ∈ tickO w l now) : ∃ s, s ∈ l ∧ s.id = d ∧ dueS w now s = true := by
  obtain ⟨s, hs, rfl⟩ := List.mem_map.1 h
  have := List.mem_filter.1 hs
  exact ⟨s, this.1, rfl, this.2⟩
theorem nodup_take {l : List Int} {i : Nat} (hn : l.Nodup) (hi : i < l.length) : l[i] ∉ l.take i := fun h => by
  obtain ⟨j, hj, he⟩ := List.mem_take_iff_getElem.1 h
  have := (List.getElem_inj (h₀ := by omega) (h₁ := hi) hn).1 he
  omega
theorem map_nodup {l : List Sr} (hp : (l.map Sr.id).Pairwise (· < ·)) (ph : Sr → Bool) : ((l.filter ph).map Sr.id).Nodup :=
  (hp.sublist (List.filter_sublist.map _)).imp fun h => by omega
set_option maxHeartbeats 1600000 in
theorem xf_Tick {W : World} {L : List Blk} (w : Int) (r mb : Nat) (mo : Obj) (l : List Sr) (hx : RqOk w mo l) (now : Int) (hn : 0 ≤ now ∧ now ≤ 18446744073709551615) (hs : ∀ s, s ∈ l → s.sent < big) :
    XF Try.prog W 8 #[.pointer (some ⟨r, 0, none⟩), .int .u64 now] (rqB w r mb mo L) (fun v L' => ∃ p k lo mo', v = .slice p (tickO w l now).length k ∧ SlQ 1 30 (.slice p (tickO w l now).length k) (tickO w l now).length (ints .u32 (tickO w l now)) lo ∧ RqOk w mo' (tickL w l now) ∧ L' = lo ++ rqB w r mb mo' L) := by
  have hso := hx.so
  refine xf_enter (args := [_, _]) Try.func8 rfl Try.ntmps8 rfl ?_
  focus
    refine xc_seq ?_
    refine xc_region ?_
    refine xo_ef rfl (ef_box rfl fun r2 => ?_)
    refine xo_ef rfl (ef_box rfl fun r3 => ?_)
    refine xo_rd (rd_assign rfl) rfl ?_
    refine xo_nil ?_
    refine xq_seq ?_
  have hth := (xf_those (W := W) (L := [(r3, Obj.cells #[.int .u64 now] 22 (0, 0)), (r2, Obj.cells #[.pointer (some ⟨r, 0, none⟩)] 25 (0, 0))] ++ L) 19 [.pointer (some ⟨r2, 0, none⟩), .pointer (some ⟨r3, 0, none⟩)] w r mb mo l hx (dueS w now) (fun L' s hs h => by
    have h2 : ∀ z, z ∈ [(r3, Obj.cells #[.int .u64 now] 22 (0, 0)), (r2, Obj.cells #[.pointer (some ⟨r, 0, none⟩)] 25 (0, 0))] ++ L → z ∈ L' := fun z hz => h z (List.mem_cons_of_mem _ (List.mem_cons_of_mem _ hz))
    exact xf_19 r2 r3 r s now w (Cl.own (h2 _ (List.mem_cons_of_mem _ List.mem_cons_self)) rfl) (Cl.own (h2 _ List.mem_cons_self) rfl) (Cl.own (h _ rqB_mem.1) rfl) (hx.se s hs).1 (hx.la s hs) hn)).perm (rqB_front w r mb mo [_, _] L)
  focus
    refine xc_seq ?_
    refine xc_region ?_
    refine xo_rd (rd_load1 rfl (Cl.o1 rfl)) rfl ?_
    refine xo_rd (rd_makeFunc rfl rfl) rfl ?_
    refine xo_ef rfl (ef_call rfl (XF.mono (hth) ?_))
    rintro v L' ⟨p, k, lo, rfl, hO, rfl⟩
    refine xo_rd (rd_assign rfl) rfl ?_
    refine xo_nil ?_
    refine xq_seq ?_
    refine xc_seq ?_
    refine xc_seq ?_
    refine xc_region ?_
    refine xo_rd (rd_move rfl) rfl ?_
    refine xo_rd (rd_len rfl) rfl ?_
    refine xo_rd (rd_move rfl) rfl ?_
    refine xo_nil ?_
    refine xq_seq ?_
    refine xc_block ?_
  refine xc_perm (L' := rqB w r mb mo (lo ++ ([(r3, Obj.cells #[.int .u64 now] 22 (0, 0)), (r2, Obj.cells #[.pointer (some ⟨r, 0, none⟩)] 25 (0, 0))] ++ L))) (rqB_front w r mb mo lo _) ?_
  obtain ⟨G, hG⟩ : ∃ G, lo ++ ([(r3, Obj.cells #[.int .u64 now] 22 (0, 0)), (r2, Obj.cells #[.pointer (some ⟨r, 0, none⟩)] 25 (0, 0))] ++ L) = G := ⟨_, rfl⟩
  rw [hG]
  have h3 : (r3, Obj.cells #[.int .u64 now] 22 (0, 0)) ∈ G := by rw [← hG]; exact List.mem_append_right _ List.mem_cons_self
  have h2 : (r2, Obj.cells #[.pointer (some ⟨r, 0, none⟩)] 25 (0, 0)) ∈ G := by rw [← hG]; exact List.mem_append_right _ (List.mem_cons_of_mem _ List.mem_cons_self)
  have hlo : ∀ z, z ∈ lo → z ∈ G := fun z hz => by rw [← hG]; exact List.mem_append_left _ hz
  have htk : tickL w l now = stepM w now (tickO w l now) l := (tickL_step hso).symm
  have hnd : (tickO w l now).Nodup := map_nodup hso _
  have hmem : ∀ d, d ∈ tickO w l now → ∃ s, s ∈ l ∧ s.id = d ∧ dueS w now s = true := fun d => tickO_mem
  have hdl : (tickO w l now).length ≤ 12 := by
    unfold tickO
    rw [List.length_map]
    exact Nat.le_trans (List.length_filter_le ..) hx.sm
  rw [htk]
  change SlQ 1 30 (.slice p (tickO w l now).length k) (tickO w l now).length (ints .u32 (tickO w l now)) lo at hO
  rw [show ((l.filter (dueS w now)).map Sr.id) = tickO w l now from rfl]
  generalize tickO w l now = ds at *
  refine xc_loopI (ι := TkS) (fun s => s.i ≤ ds.length ∧ RqOk w s.mo (stepM w now (ds.take s.i) l)) (fun s => ds.length - s.i) (fun s => rqB w r mb s.mo G) (fun s => [(2, .pointer (some ⟨r2, 0, none⟩)), (3, .pointer (some ⟨r3, 0, none⟩)), (5, .slice p ds.length k), (11, .slice p ds.length k), (12, .int .i64 ds.length), (13, .int .i64 s.i)]) ⟨0, mo⟩ ⟨Nat.zero_le _, by
    have : stepM w now (ds.take 0) l = l := by unfold stepM; simp
    dsimp only; rw [this]; exact hx⟩ rfl (by repeat (first | exact keep_nil | refine keep_cons rfl ?_)) ?_
  rintro ⟨i, m2⟩ ⟨hi, hok⟩
  dsimp only at hi hok ⊢
  by_cases hin : i < ds.length
  case neg =>
    have hie : i = ds.length := by omega
    subst hie
    rw [List.take_length] at hok
    focus
      refine xc_seq ?_
      refine xc_region ?_
      refine xo_rd (rd_lss rfl rfl) rfl ?_
      refine xo_nil ?_
      refine xq_seq ?_
      refine xc_seq ?_
      refine xc_dec rfl (fun h1 => (by exfalso; omega)) (fun h1 => ?_)
      refine xc_exit ?_
      refine xq_then_exit ?_
      refine xq_then_exit ?_
      refine xq_block_hit ?_
      refine xq_seq ?_
      refine xc_seq ?_
      refine xc_region ?_
      refine xo_rd (rd_move rfl) rfl ?_
      refine xo_rd (rd_assign rfl) rfl ?_
      refine xo_nil ?_
      refine xq_seq ?_
      refine xc_ret ?_
    subst hG
    exact xq_perm (rqB_front w r mb m2 lo _).symm (xq_sub ((rqB_sub w r mb m2 [_, _] L).append_left lo) (xq_ret1 (.inl rfl) Try.results8 rfl ⟨p, k, lo, m2, rfl, hO, hok, rfl⟩))
  obtain ⟨s, hsl, hsi, hsd⟩ := hmem ds[i] (List.getElem_mem _)
  have hnt := nodup_take hnd hin
  have htake : ds.take (i + 1) = ds.take i ++ [ds[i]] := by rw [List.take_add_one, List.getElem?_eq_getElem hin]; rfl
  have hrs : Rs W (rqB w r mb m2 G) p (ints .u32 ds) := hO.rs fun z hz => List.mem_cons_of_mem _ (List.mem_cons_of_mem _ (hlo z hz))
  obtain ⟨b, o, hpb, hc⟩ := hrs.int (i := i) hin
  subst hpb
  generalize ds[i] = d at *
  subst hsi
  have hget := stepM_get hso hsl hnt (w := w) (now := now)
  have hask := stepM_ask hso hsl hnt (w := w) (now := now)
  rw [← htake] at hask
  have hmay : mayB w s now = true := by
    unfold dueS at hsd
    simp only [Bool.and_eq_true] at hsd
    exact hsd.2
  have hln : (stepM w now (ds.take (i + 1)) l).length ≤ 12 := by unfold stepM; rw [List.length_map]; exact hx.sm
  have hAsk := xf_Ask (W := W) (L := G) w r mb m2 _ hok s.id now (hx.id s hsl) hn (by rw [hget]; exact hs s hsl) (by rw [hask]; exact hln) true (by rw [hget]; exact hmay)
  rw [hask] at hAsk
  focus
    refine xc_seq ?_
    refine xc_region ?_
    refine xo_rd (rd_lss rfl rfl) rfl ?_
    refine xo_nil ?_
    refine xq_seq ?_
    refine xc_seq ?_
    refine xc_dec rfl (fun h1 => ?_) (fun h1 => (by exfalso; omega))
    refine xc_skip ?_
    refine xq_seq ?_
    refine xc_seq ?_
    refine xc_block ?_
    refine xc_seq ?_
    refine xc_region ?_
    refine xo_rd (rd_indexAddr rfl rfl (by omega) (by omega)) rfl ?_
    refine xo_rd (rd_load1 rfl hc) rfl ?_
    refine xo_rd (rd_assign rfl) rfl ?_
    refine xo_nil ?_
    refine xq_seq ?_
    refine xc_region ?_
    refine xo_rd (rd_load1 rfl (Cl.own (i := 0) (List.mem_cons_of_mem _ (List.mem_cons_of_mem _ h2)) rfl)) rfl ?_
    refine xo_rd (rd_move rfl) rfl ?_
    refine xo_rd (rd_load1 rfl (Cl.own (i := 0) (List.mem_cons_of_mem _ (List.mem_cons_of_mem _ h3)) rfl)) rfl ?_
    refine xo_ef rfl (ef_call rfl (XF.mono (hAsk) ?_))
    rintro v L' ⟨rfl, m3, hok3, rfl⟩
    refine xo_nil ?_
    refine xq_block ?_
    refine xq_seq ?_
    refine xc_region ?_
    refine xo_rd (rd_addn rfl rfl (by omega) (by omega)) rfl ?_
    refine xo_rd (rd_move rfl) rfl ?_
    refine xo_nil ?_
  exact xq_roundI (⟨i + 1, m3⟩ : TkS) ⟨by dsimp only; omega, hok3⟩ (by dsimp only; omega) rfl (by repeat (first | exact keep_nil | refine keep_cons rfl ?_))
end Go.Proofs.Ytoolgphkfnkajaa.X
