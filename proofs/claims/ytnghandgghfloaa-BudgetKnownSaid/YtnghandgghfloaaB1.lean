/-
  The plan of a rate: walks of my own.
-/
import Derived.Test.YtnghandgghfloaaA9
import Derived.Scope
namespace Go.Proofs.Ytnghandgghfloaa.X
open Go Go.RowKit
set_option linter.unusedVariables false
set_option linter.unusedSimpArgs false
theorem xci_scope {P : Program} {W : World} {n m : Nat} {ds : List Deferred} {Q : Exit → Go.Act → World → Prop} {L : List Blk} {E : List (Nat × Value)} {c : Code} (h : XCI Fence.wide m ds P W n c (Exit.noGoto Q) L E) : XCI Fence.wide m ds P W n (.scope c) Q L E := .mk fun a w ha hw => wpIn_wide.2 (wp_scope_straight (wpIn_wide.1 (h.run a w ha hw)))
theorem xci_label {F : Fence} {P : Program} {W : World} {n m : Nat} {ds : List Deferred} {Q : Exit → Go.Act → World → Prop} {L : List Blk} {E : List (Nat × Value)} {l : Nat} (h : XQ W n (Qd ds Q) .normal L E) : XCI F m ds P W n (.label l) Q L E := .mk fun a w ha hw => wpIn_label (h.run a w ha hw)
theorem xqd_hit {W : World} {n id : Nat} {ds : List Deferred} {Q : Exit → Go.Act → World → Prop} {L : List Blk} {E : List (Nat × Value)} (h : XQ W n (Qd ds Q) .normal L E) : XQ W n (Qd ds (Exit.inBlock id Q)) (.exit id) L E := .mk fun a w ha hw => by
  show Exit.inBlock id Q (.exit id) (Act.ds a ds) w
  unfold Exit.inBlock
  simp only [if_true]
  exact h.run a w ha hw
theorem xq_ng {W : World} {n : Nat} {Q : Exit → Go.Act → World → Prop} {L : List Blk} {E : List (Nat × Value)} (h : XQ W n (Qd [] Q) .ret L E) : XQ W n (Exit.noGoto Q) .ret L E := .mk fun a w ha hw => by
  have := h.run a w ha hw
  unfold Qd at this
  rw [Act.ds_nil ha] at this
  exact this
theorem xqd_ng {W : World} {n : Nat} {ds : List Deferred} {Q : Exit → Go.Act → World → Prop} {L : List Blk} {E : List (Nat × Value)} (h : XQ W n (Qd ds Q) .ret L E) : XQ W n (Qd ds (Exit.noGoto Q)) .ret L E := .mk fun a w ha hw => h.run a w ha hw
/-- The best plan so far: its cells, and its blocks. -/
def curE {m : Nat} (pre : List (Pm m)) : List Value := match pre.getLast? with | some w => w.1.enc | none => [.int .i64 0, .slice none 0 0]
def curL {m : Nat} (pre : List (Pm m)) : List Blk := match pre.getLast? with | some w => w.1.l | none => []
theorem curE_last {m : Nat} (pre : List (Pm m)) (w : Pm m) : curE (pre ++ [w]) = w.1.enc := by unfold curE; simp
theorem curL_last {m : Nat} (pre : List (Pm m)) (w : Pm m) : curL (pre ++ [w]) = w.1.l := by unfold curL; simp
theorem curE_len {m : Nat} (pre : List (Pm m)) : (curE pre).length = 2 := by unfold curE; split <;> rfl
theorem xf_alloc_bad {W : World} {L : List Blk} (rate : Int) (p q : Option Addr) (n c m d : Nat) (ct cm : List Int) (hn : ct.length = n) (hm : cm.length = m) (hr : Rs W L p (ints .u64 ct)) (hb : n ≤ 1000) (hb2 : m ≤ 1000) (hR : ¬ Rgt ct cm) :
    XF Try.prog W 11 #[.int .u64 rate, .agg #[.slice p n c, .slice q m d]] L (fun v L' => v = .tuple #[.agg #[.int .i64 0, .slice none 0 0], .int .i64 2] ∧ L' = L) := by
  refine xf_enterM (args := [_, _]) Try.func11 rfl Try.ntmps11 rfl ?_
  refine xci_seq (xci_wide ?_)
  focus
    refine xc_region ?_
    refine xo_ef rfl (ef_box rfl fun r2 => ?_)
    refine xo_ef rfl (ef_box rfl fun r3 => ?_)
    refine xo_ef rfl (ef_alloc fun r4 => ?_)
    refine xo_rd (rd_assign rfl) rfl ?_
    refine xo_nil ?_
  refine xci_tail0 (xci_scope (xci_seq (xci_seq (xci_wide ?_))))
  focus
    refine xc_region ?_
    refine xo_rd (rd_loadB rfl Kn.o1 (by rfl)) rfl ?_
    refine xo_ef rfl (ef_call rfl (XF.mono (xf_right p q n c m d ct cm hn hm hr.skip.skip.skip (by omega) (by omega)) ?_))
    rintro v L' ⟨⟨b, rfl, hbr⟩, rfl⟩
    refine xo_rd (rd_not rfl) rfl ?_
    refine xo_nil ?_
  refine xci_tail0 (xci_cond rfl (fun hb => ?_) (fun hb => ?_))
  · refine xci_wide ?_
    focus
      refine xc_seq ?_
      refine xc_region ?_
      refine xo_rd (rd_build rfl rfl rfl) rfl ?_
      refine xo_ef rfl (ef_storeB [] _ rfl rfl (by first | rfl | assumption) rfl rfl rfl ?_)
      refine xo_rd (rd_assign rfl) rfl ?_
      refine xo_nil ?_
      refine xq_seq ?_
      refine xc_ret ?_
      refine xq_then_ret ?_
    exact xq_ng (xq0_ret (.inl rfl) (xq_retB2 (.inl rfl) Try.results11 rfl rfl Kn.o0 rfl (((List.sublist_cons_self _ _).trans (List.sublist_cons_self _ _)).trans (List.sublist_cons_self _ _)) ⟨rfl, rfl⟩))
  · exfalso
    cases b
    · cases hb
    · exact hR (hbr.1 rfl)
theorem pick_prefix {ct cm : List Int} {rate : Int} {l init : List (Int × List Bool)} {x : Int × List Bool} (h : init ++ [x] <+: l) (hi : ∀ y, y ∈ init → ¬ costC ct cm y.1 y.2 ≤ rate) (hx : costC ct cm x.1 x.2 ≤ rate) : pick ct cm rate l = some x := by
  obtain ⟨t, rfl⟩ := h
  unfold pick
  rw [List.find?_append, List.find?_append, List.find?_eq_none.2 (fun y hy => by simpa using hi y hy)]
  simp [hx]
set_option maxHeartbeats 2000000 in
theorem xf_alloc {W : World} {L : List Blk} (rate : Int) (p q : Option Addr) (n c m d : Nat) (ct cm : List Int) (hn : ct.length = n) (hm : cm.length = m) (hr : Rs W L p (ints .u64 ct)) (hq : Rs W L q (ints .u64 cm)) (hU : ∀ x, x ∈ ct → U x) (hU2 : ∀ x, x ∈ cm → U x) (hb : n ≤ 1000) (hb2 : m ≤ 1000) (hR : Rgt ct cm) (z : Int × List Bool) (hz : pick ct cm rate (plansOf n m) = some z) :
    XF Try.prog W 11 #[.int .u64 rate, .agg #[.slice p n c, .slice q m d]] L (fun v L' => ∃ w : Pw, v = .tuple #[.agg w.enc.toArray, .int .i64 0] ∧ w.Is ∧ w.pl = z ∧ L' = w.l ++ L) := by
  have hpl : pls ct cm = plansOf n m := by subst hn; subst hm; unfold pls; rw [if_pos hR]
  refine xf_enterM (args := [_, _]) Try.func11 rfl Try.ntmps11 rfl ?_
  refine xci_seq (xci_wide ?_)
  focus
    refine xc_region ?_
    refine xo_ef rfl (ef_box rfl fun r2 => ?_)
    refine xo_ef rfl (ef_box rfl fun r3 => ?_)
    refine xo_ef rfl (ef_alloc fun r4 => ?_)
    refine xo_rd (rd_assign rfl) rfl ?_
    refine xo_nil ?_
  refine xci_tail0 (xci_scope (xci_seq (xci_seq (xci_wide ?_))))
  focus
    refine xc_region ?_
    refine xo_rd (rd_loadB rfl Kn.o1 (by rfl)) rfl ?_
    refine xo_ef rfl (ef_call rfl (XF.mono (xf_right p q n c m d ct cm hn hm hr.skip.skip.skip (by omega) (by omega)) ?_))
    rintro v L' ⟨⟨b, rfl, hbr⟩, rfl⟩
    refine xo_rd (rd_not rfl) rfl ?_
    refine xo_nil ?_
  obtain rfl : b = true := hbr.2 hR
  refine xci_tail0 (xci_cond rfl (fun hb' => by cases hb') (fun hb' => xci_skip (xq_d0 (xci_tail0 (xci_seq (xci_wide ?_))))))
  focus
    refine xc_region ?_
    refine xo_ef rfl (ef_alloc fun r6 => ?_)
    refine xo_nil ?_
  refine xci_tail0 (xci_seq (xci_label (xq_d0 (xci_tail0 (xci_seq (xci_seq (xci_wide ?_)))))))
  focus
    refine xc_region ?_
    refine xo_rd (rd_loadB rfl Kn.o2 (by rfl)) rfl ?_
    refine xo_ef rfl (ef_call rfl (XF.mono (xf_all p q n c m d) ?_))
    rintro v L' ⟨rb, rfl, rfl⟩
    refine xo_nil ?_
  refine xci_tail0 (xci_block (xci_range (it_all L rb p q n c m d ct cm hn hm hr hb hb2) rfl (Cf.h (P := Try.prog) (f := 30)) (by decide)
    (fun pre L' => (∀ y, y ∈ pre.map (fun w : Pm m => w.1.pl) → ¬ costC ct cm y.1 y.2 ≤ rate) ∧ L' = (rb, .cells #[.slice p n c, .slice q m d] 25 (0, 0)) :: (r6, .cells (curE pre).toArray 36 (0, 0)) :: (curL pre ++ ((r4, .cells #[.int .i64 0, .slice none 0 0] 36 (0, 0)) :: (r3, .cells #[.slice p n c, .slice q m d] 25 (0, 0)) :: (r2, .cells #[.int .u64 rate] 22 (0, 0)) :: L)))
    (fun cd pre L' => cd = .exit 0 ∧ ∃ init x, pre = init ++ [x] ∧ (∀ y, y ∈ init.map (fun w : Pm m => w.1.pl) → ¬ costC ct cm y.1 y.2 ≤ rate) ∧ costC ct cm x.1.cap x.1.on ≤ rate ∧ L' = (r6, .cells x.1.enc.toArray 36 (0, 0)) :: (r4, .cells #[.int .i64 0, .slice none 0 0] 36 (0, 0)) :: (x.1.l ++ L)) ?_ ⟨(fun _ h => by cases h), rfl⟩
    (ι := Nat) (fun pre x L' r7 => (r7, .cells x.1.enc.toArray 36 (0, 0)) :: (x.1.l ++ L')) (fun _ _ _ r7 => [(2, .pointer (some ⟨r2, 0, none⟩)), (3, .pointer (some ⟨r3, 0, none⟩)), (6, .pointer (some ⟨r6, 0, none⟩)), (7, .pointer (some ⟨r7, 0, none⟩))]) ?_ ?_ ?_ ?_))
  · rintro pre L' ⟨_, rfl⟩ z hz
    rcases List.mem_cons.1 hz with rfl | hz
    · exact List.mem_cons_self ..
    · simp [hz]
  · intro l pre x A L' hI hlen
    have hWd : Wd (Fence.wide.inRound l) := .inr ⟨l, rfl⟩
    refine xci_region ?_
    refine xi_ef hWd (fun _ h => by cases h) rfl (ef_alloc fun r7 => ?_)
    refine xi_ef hWd (fun _ h => by cases h) rfl (ef_storeB [] _ (vs := x.1.enc) rfl rfl (Pw.one x.2.1) rfl rfl rfl ?_)
    refine xi_nil (xq_d0 (.mk fun a w ha hw => ⟨r7, ha.keep (by repeat (first | exact keep_nil | refine keep_cons rfl ?_)), hw.perm (by classical exact List.perm_iff_count.2 fun a => by simp only [List.append_eq, List.count_append, List.count_cons, List.count_nil, List.cons_append, List.nil_append, List.flatMap_append, List.flatMap_cons, List.flatMap_nil, List.append_nil]; omega)⟩))
  · rintro l pre x A L' r7 ⟨hno, rfl⟩ hlen
    have hWd : Wd (Fence.wide.inRound l) := .inr ⟨l, rfl⟩
    obtain ⟨⟨cap, on, v, lx⟩, hwi, hon⟩ := x
    dsimp only at hon ⊢
    obtain ⟨sx, kx, hv, hO, _⟩ := SlO.opn (show SlO 1 4 v on.length (bls on) lx from hwi)
    subst hv
    refine xci_block (xci_seq (xci_region ?_))
    dsimp only [Pw.enc]
    refine xi_perm (L' := (r2, .cells #[.int .u64 rate] 22 (0, 0)) :: (r3, .cells #[.slice p n c, .slice q m d] 25 (0, 0)) :: (r6, .cells (curE pre).toArray 36 (0, 0)) :: (r7, .cells #[.int .i64 cap, .slice sx on.length kx] 36 (0, 0)) :: (lx ++ (A ++ ((rb, .cells #[.slice p n c, .slice q m d] 25 (0, 0)) :: (curL pre ++ ((r4, .cells #[.int .i64 0, .slice none 0 0] 36 (0, 0)) :: L)))))) (by classical exact List.perm_iff_count.2 fun a => by simp only [List.append_eq, List.count_append, List.count_cons, List.count_nil, List.cons_append, List.nil_append, List.flatMap_append, List.flatMap_cons, List.flatMap_nil, List.append_nil]; omega) ?_
    refine xi_rd hWd (fun _ h => by cases h) (rd_loadB (vs := [.int .i64 cap, .slice sx on.length kx]) rfl Kn.o3 rfl) rfl ?_
    refine xi_ef hWd (fun _ h => by cases h) rfl (ef_storeB [_, _] _ (vs := [.int .i64 cap, .slice sx on.length kx]) rfl rfl rfl rfl rfl (by rw [List.size_toArray, curE_len]; rfl) ?_)
    refine xi_nil (xq_d0 (xci_tail0 (xci_seq (xci_drawML [0, 0, 3, 0, 12] [0, 0, 3, 0, 12] (by kernel_rfl) (by kernel_rfl) (by kernel_rfl) (by kernel_rfl) ?_))))
    focus
      refine xm_take 0 (m' := 1) rfl (by kernel_rfl) (by first | exact Sb.refl | exact Sb.nil | (repeat (first | exact Sb.nil | exact Sb.refl | exact Sb.app0 | apply Sb.keep | apply Sb.keepApp | apply Sb.cons | apply Sb.app))) (rd_loadB rfl Kn.o1 (by rfl)) rfl (by kernel_rfl) ?_
      refine xm_take 1 (m' := 3) rfl (by kernel_rfl) (by first | exact Sb.refl | exact Sb.nil | (repeat (first | exact Sb.nil | exact Sb.refl | exact Sb.app0 | apply Sb.keep | apply Sb.keepApp | apply Sb.cons | apply Sb.app))) (rd_loadB rfl Kn.o3 (by rfl)) rfl (by kernel_rfl) ?_
      refine xm_take 3 (m' := 11) rfl (by kernel_rfl) (by first | exact Sb.refl | exact Sb.nil | (repeat (first | exact Sb.nil | exact Sb.refl | exact Sb.app0 | apply Sb.keep | apply Sb.keepApp | apply Sb.cons | apply Sb.app))) (rd_load1 rfl (Cl.o0 rfl)) rfl (by kernel_rfl) ?_
      refine xm_one 2 (m' := 15) rfl (by kernel_rfl) rfl (by kernel_rfl) (ef_call rfl (XF.mono (xf_of p q sx n c m d on.length kx ct cm cap on hn hm rfl (hr.mono (by intro z hz; simp [hz])) (hq.mono (by intro z hz; simp [hz])) (hO.rs (by intro z hz; simp [hz])) hU hU2 hb hb2 (by omega)) ?_))
      rintro v L' ⟨rfl, rfl⟩
      refine ⟨(by first | exact Sb.refl | exact Sb.nil | (repeat (first | exact Sb.nil | exact Sb.refl | exact Sb.app0 | apply Sb.keep | apply Sb.keepApp | apply Sb.cons | apply Sb.app))), ?_⟩
      refine xm_take 4 (m' := 31) rfl (by kernel_rfl) (by first | exact Sb.refl | exact Sb.nil | (repeat (first | exact Sb.nil | exact Sb.refl | exact Sb.app0 | apply Sb.keep | apply Sb.keepApp | apply Sb.cons | apply Sb.app))) (rd_leq rfl rfl) rfl (by kernel_rfl) ?_
      refine xm_done (by kernel_rfl) ?_
    refine xq_qn (xci_tail0 (xci_cond rfl (fun hc => ?_) (fun hc => ?_)))
    · refine xci_exit (xq_d0 (xq_block_miss rfl (.mk fun a w ha hw => ⟨(r6, .cells #[.int .i64 cap, .slice sx on.length kx] 36 (0, 0)) :: (r4, .cells #[.int .i64 0, .slice none 0 0] 36 (0, 0)) :: (lx ++ L), ⟨rfl, pre, _, rfl, hno, by simpa using hc, rfl⟩, ?_⟩)))
      replace hw : Hp W w ((r2, .cells #[.int .u64 rate] 22 (0, 0)) :: (r3, .cells #[.slice p n c, .slice q m d] 25 (0, 0)) :: (r6, .cells #[.int .i64 cap, .slice sx on.length kx] 36 (0, 0)) :: (r7, .cells #[.int .i64 cap, .slice sx on.length kx] 36 (0, 0)) :: (lx ++ (A ++ ((rb, .cells #[.slice p n c, .slice q m d] 25 (0, 0)) :: (curL pre ++ ((r4, .cells #[.int .i64 0, .slice none 0 0] 36 (0, 0)) :: L)))))) := hw
      refine (hw.perm (L' := ((r2, .cells #[.int .u64 rate] 22 (0, 0)) :: (r3, .cells #[.slice p n c, .slice q m d] 25 (0, 0)) :: (r7, .cells #[.int .i64 cap, .slice sx on.length kx] 36 (0, 0)) :: (rb, .cells #[.slice p n c, .slice q m d] 25 (0, 0)) :: curL pre) ++ (A ++ ((r6, .cells #[.int .i64 cap, .slice sx on.length kx] 36 (0, 0)) :: (r4, .cells #[.int .i64 0, .slice none 0 0] 36 (0, 0)) :: (lx ++ L)))) ?_).sub (List.sublist_append_right _ _)
      exact (by classical exact List.perm_iff_count.2 fun a => by simp only [List.append_eq, List.count_append, List.count_cons, List.count_nil, List.cons_append, List.nil_append, List.flatMap_append, List.flatMap_cons, List.flatMap_nil, List.append_nil]; omega)
    · refine xci_skip (xq_d0 (xq_block (.mk fun a w ha hw => ⟨_, ⟨?_, rfl⟩, ?_⟩)))
      · intro y hy
        rw [List.map_append] at hy
        rcases List.mem_append.1 hy with hy | hy
        · exact hno y hy
        · rw [List.map_singleton, List.mem_singleton] at hy
          subst hy
          exact of_decide_eq_false hc
      · rw [curE_last, curL_last]
        replace hw : Hp W w ((r2, .cells #[.int .u64 rate] 22 (0, 0)) :: (r3, .cells #[.slice p n c, .slice q m d] 25 (0, 0)) :: (r6, .cells #[.int .i64 cap, .slice sx on.length kx] 36 (0, 0)) :: (r7, .cells #[.int .i64 cap, .slice sx on.length kx] 36 (0, 0)) :: (lx ++ (A ++ ((rb, .cells #[.slice p n c, .slice q m d] 25 (0, 0)) :: (curL pre ++ ((r4, .cells #[.int .i64 0, .slice none 0 0] 36 (0, 0)) :: L)))))) := hw
        refine (hw.perm (L' := ((r7, .cells #[.int .i64 cap, .slice sx on.length kx] 36 (0, 0)) :: curL pre) ++ (A ++ ((rb, .cells #[.slice p n c, .slice q m d] 25 (0, 0)) :: (r6, .cells #[.int .i64 cap, .slice sx on.length kx] 36 (0, 0)) :: (lx ++ ((r4, .cells #[.int .i64 0, .slice none 0 0] 36 (0, 0)) :: (r3, .cells #[.slice p n c, .slice q m d] 25 (0, 0)) :: (r2, .cells #[.int .u64 rate] 22 (0, 0)) :: L))))) ?_).sub (List.sublist_append_right _ _)
        exact (by classical exact List.perm_iff_count.2 fun a => by simp only [List.append_eq, List.count_append, List.count_cons, List.count_nil, List.cons_append, List.nil_append, List.flatMap_append, List.flatMap_cons, List.flatMap_nil, List.append_nil]; omega)
  · rintro D xs L' hS ⟨hno, _⟩
    exfalso
    rw [hpl] at hS
    have := List.find?_some hz
    have hmem := List.mem_of_find?_eq_some hz
    rw [← hS] at hmem
    exact hno z hmem (by simpa using this)
  · rintro D cd pre L' hSp ⟨rfl, init, x, rfl, hno, hc, rfl⟩
    have hWd : Wd Fence.wide := .inl rfl
    have hzx : z = x.1.pl := by
      rw [hpl, List.map_append] at hSp
      have := pick_prefix (x := x.1.pl) hSp hno hc
      rw [this] at hz
      exact (Option.some.inj hz).symm
    refine xci_exit (xqd_hit (xci_tail (xci_seq (xci_region ?_))))
    refine xi_rd hWd (fun _ h => by cases h) (rd_loadB (vs := x.1.enc) rfl Kn.o1 rfl) rfl ?_
    refine xi_ef hWd (fun _ h => by cases h) rfl (ef_storeB [_, _] _ (vs := x.1.enc) rfl rfl (Pw.one x.2.1) rfl rfl rfl ?_)
    refine xi_rd hWd (fun _ h => by cases h) (rd_assign rfl) rfl ?_
    refine xi_nil (xci_tail (xci_ret (xqd_ng (xqm_ret (.inl rfl) (xq_retB2 (L' := x.1.l ++ L) (.inl rfl) Try.results11 rfl rfl Kn.o1 rfl ((List.sublist_cons_self _ _).trans (List.sublist_cons_self _ _)) ⟨x.1, rfl, x.2.1, hzx.symm, rfl⟩)))))
end Go.Proofs.Ytnghandgghfloaa.X
