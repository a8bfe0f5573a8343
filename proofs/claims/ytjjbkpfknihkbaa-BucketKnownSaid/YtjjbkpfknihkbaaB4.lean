/-
  The reference's bucket, by walks of my own.
-/
import Derived.Test.YtjjbkpfknihkbaaB2
namespace Go.Proofs.Ytjjbkpfknihkbaa.X
open Go Go.RowKit
set_option linter.unusedVariables false

theorem xf_rplus {W : World} {L : List Blk} (a b : Int) (ha : 0 ≤ a) (ha' : a ≤ top) (hb : 0 ≤ b) (hb' : b ≤ top) : XF Try.prog W 31 #[.int .u64 a, .int .u64 b] L (fun v L' => v = .int .u64 (plus a b) ∧ L' = L) := by
  refine xf_enter (args := [.int .u64 a, .int .u64 b]) Try.func31 rfl Try.ntmps31 rfl ?_
  refine xc_seq ?_
  refine xc_region ?_
  refine xo_rd (rd_assign rfl) rfl ?_
  refine xo_nil ?_
  refine xq_seq ?_
  refine xc_seq ?_
  refine xc_seq ?_
  refine xc_region ?_
  refine xo_rd (rd_move rfl) rfl ?_
  refine xo_ef rfl (ef_call rfl ((xf_top).mono ?_))
  rintro v L' ⟨rfl, rfl⟩
  refine xo_rd (rd_move rfl) rfl ?_
  refine xo_rd (rd_sub rfl rfl) rfl ?_
  refine xo_rd (rd_gtr rfl rfl) rfl ?_
  refine xo_nil ?_
  refine xq_seq ?_
  have e1 : IntKind.u64.wrap (top - a) = top - a := by rw [wrap_u64]; unfold top at *; omega
  rw [e1]
  refine xc_dec rfl (fun h => ?_) (fun h => ?_)
  · refine xc_seq ?_
    refine xc_region ?_
    refine xo_ef rfl (ef_call rfl (xf_top.mono ?_))
    rintro v L' ⟨rfl, rfl⟩
    refine xo_rd (rd_assign rfl) rfl ?_
    refine xo_nil ?_
    refine xq_seq ?_
    refine xc_ret ?_
    refine xq_then_ret ?_
    refine xq_ret1 (.inl rfl) Try.results31 rfl ⟨?_, rfl⟩
    rw [plus, if_neg (by omega)]
  · refine xc_skip ?_
    refine xq_seq ?_
    refine xc_seq ?_
    refine xc_region ?_
    refine xo_rd (rd_move rfl) rfl ?_
    refine xo_rd (rd_move rfl) rfl ?_
    refine xo_rd (rd_add rfl rfl) rfl ?_
    refine xo_rd (rd_assign rfl) rfl ?_
    refine xo_nil ?_
    refine xq_seq ?_
    refine xc_ret ?_
    refine xq_ret1 (.inl rfl) Try.results31 rfl ⟨?_, rfl⟩
    rw [plus, if_pos (by omega)]
    have e2 : IntKind.u64.wrap (a + b) = a + b := by rw [wrap_u64]; unfold top at *; omega
    exact congrArg _ e2

theorem xf_rtimes {W : World} {L : List Blk} (a b : Int) (ha : 0 ≤ a) (ha' : a ≤ top) (hb : 0 ≤ b) (hb' : b ≤ top) : XF Try.prog W 32 #[.int .u64 a, .int .u64 b] L (fun v L' => v = .int .u64 (times a b) ∧ L' = L) := by
  refine xf_enter (args := [.int .u64 a, .int .u64 b]) Try.func32 rfl Try.ntmps32 rfl ?_
  refine xc_seq ?_
  refine xc_region ?_
  refine xo_rd (rd_assign rfl) rfl ?_
  refine xo_nil ?_
  refine xq_seq ?_
  refine xc_seq ?_
  refine xc_seq ?_
  refine xc_region ?_
  refine xo_rd (rd_move rfl) rfl ?_
  refine xo_rd (rd_gtr rfl rfl) rfl ?_
  refine xo_rd (rd_move rfl) rfl ?_
  refine xo_dec 7 rfl (fun h => ?_) (fun h => ?_)
  · refine xo_grd rfl rfl (rd_move rfl) rfl ?_
    refine xo_gef rfl rfl rfl (ef_call rfl (xf_top.mono ?_))
    rintro v L' ⟨rfl, rfl⟩
    refine xo_grd rfl rfl (rd_move rfl) rfl ?_
    have hq : 0 ≤ top / a := Int.ediv_nonneg (by decide) ha
    have hqi : b ≤ top / a ↔ b * a ≤ top := Int.le_ediv_iff_mul_le h
    have hab : 0 ≤ a * b := Int.mul_nonneg ha hb
    rw [Int.mul_comm] at hqi
    have e2 : a * b ≤ top → IntKind.u64.wrap (a * b) = a * b := fun h => by rw [wrap_u64]; unfold top at h; omega
    refine xo_grd rfl rfl (rd_quon rfl rfl (by decide) h (by decide) (by decide)) rfl ?_
    generalize top / a = q at *
    refine xo_grd rfl rfl (rd_gtr rfl rfl) rfl ?_
    refine xo_rd (rd_pickt rfl rfl) rfl ?_
    refine xo_nil ?_
    refine xq_seq ?_
    refine xc_dec rfl (fun h4 => ?_) (fun h4 => ?_)
    · refine xc_seq ?_
      refine xc_region ?_
      refine xo_ef rfl (ef_call rfl (xf_top.mono ?_))
      rintro v L' ⟨rfl, rfl⟩
      refine xo_rd (rd_assign rfl) rfl ?_
      refine xo_nil ?_
      refine xq_seq ?_
      refine xc_ret ?_
      refine xq_then_ret ?_
      refine xq_ret1 (.inl rfl) Try.results32 rfl ⟨?_, rfl⟩
      rw [times, if_neg (by omega)]
    · refine xc_skip ?_
      refine xq_seq ?_
      refine xc_seq ?_
      refine xc_region ?_
      refine xo_rd (rd_move rfl) rfl ?_
      refine xo_rd (rd_move rfl) rfl ?_
      refine xo_rd (rd_mul rfl rfl) rfl ?_
      refine xo_rd (rd_assign rfl) rfl ?_
      refine xo_nil ?_
      refine xq_seq ?_
      refine xc_ret ?_
      refine xq_ret1 (.inl rfl) Try.results32 rfl ⟨?_, rfl⟩
      rw [times, if_pos (by omega)]
      exact congrArg _ (e2 (by omega))
  · have h0 : a = 0 := by omega
    refine xo_gskip rfl rfl rfl rfl ?_
    refine xo_gskip rfl rfl rfl rfl ?_
    refine xo_gskip rfl rfl rfl rfl ?_
    refine xo_gskip rfl rfl rfl rfl ?_
    refine xo_gskip rfl rfl rfl rfl ?_
    refine xo_rd (rd_pickf rfl rfl) rfl ?_
    refine xo_nil ?_
    refine xq_seq ?_
    refine xc_condf rfl ?_
    refine xc_skip ?_
    refine xq_seq ?_
    refine xc_seq ?_
    refine xc_region ?_
    refine xo_rd (rd_move rfl) rfl ?_
    refine xo_rd (rd_move rfl) rfl ?_
    refine xo_rd (rd_mul rfl rfl) rfl ?_
    refine xo_rd (rd_assign rfl) rfl ?_
    refine xo_nil ?_
    refine xq_seq ?_
    refine xc_ret ?_
    subst h0
    have e2 : IntKind.u64.wrap (0 * b) = times 0 b := by rw [Int.zero_mul]; unfold times; rw [Int.zero_mul]; rfl
    refine xq_ret1 (.inl rfl) Try.results32 rfl ⟨congrArg _ e2, rfl⟩

theorem xf_rmost {W : World} {L : List Blk} (r b t : Int) (hr : 0 ≤ r) (hr' : r ≤ top) (hb : 0 ≤ b) (hb' : b ≤ top) (ht : 0 ≤ t) (ht' : t ≤ top) : XF Try.prog W 18 #[.int .u64 r, .int .u64 b, .int .u64 t] L (fun v L' => v = .int .u64 (plus b (times r t)) ∧ L' = L) := by
  refine xf_enter (args := [.int .u64 r, .int .u64 b, .int .u64 t]) Try.func18 rfl Try.ntmps18 rfl ?_
  refine xc_seq ?_
  refine xc_region ?_
  refine xo_rd (rd_assign rfl) rfl ?_
  refine xo_nil ?_
  refine xq_seq ?_
  refine xc_seq ?_
  refine xc_region ?_
  refine xo_rd (rd_move rfl) rfl ?_
  refine xo_rd (rd_move rfl) rfl ?_
  refine xo_rd (rd_move rfl) rfl ?_
  refine xo_ef rfl (ef_call rfl ((xf_rtimes r t hr hr' ht ht').mono ?_))
  rintro v L' ⟨rfl, rfl⟩
  skip
  refine xo_ef rfl (ef_call rfl ((xf_rplus b _ hb hb' (times_nonneg hr ht) (times_le _ _)).mono ?_))
  rintro v L' ⟨rfl, rfl⟩
  refine xo_rd (rd_assign rfl) rfl ?_
  refine xo_nil ?_
  refine xq_seq ?_
  refine xc_ret ?_
  refine xq_ret1 (.inl rfl) Try.results18 rfl ⟨rfl, rfl⟩

/-- What stays of it while its tokens are reckoned. -/
def Bk.S42 (x : Bk) (W : World) (p : Nat) (L : List Blk) (w : World) : Prop := ∃ u, Hp W w ((p, .cells [.int .u64 x.r, .int .u64 x.b, u, .int .u64 x.a].toArray 42 (0, 0)) :: L)

theorem xf_rnew0 {W : World} {L : List Blk} (r a : Int) : XF Try.prog W 19 #[.int .u64 r, .int .u64 0, .int .u64 a] L (fun v L' => v = .tuple #[.agg #[.int .u64 0, .int .u64 0, .int .u64 0, .int .u64 0], .int .i64 2] ∧ L' = L) := by
  refine xf_enter (args := [.int .u64 r, .int .u64 0, .int .u64 a]) Try.func19 rfl Try.ntmps19 rfl ?_
  refine xc_seq ?_
  refine xc_region ?_
  refine xo_ef rfl (ef_alloc fun r1 => ?_)
  refine xo_rd (rd_assign rfl) rfl ?_
  refine xo_nil ?_
  refine xq_seq ?_
  refine xc_seq ?_
  refine xc_seq ?_
  refine xc_region ?_
  refine xo_rd (rd_move rfl) rfl ?_
  refine xo_rd (rd_eql rfl rfl) rfl ?_
  refine xo_nil ?_
  refine xq_seq ?_
  refine xc_condt rfl ?_
  refine xc_seq ?_
  refine xc_region ?_
  refine xo_rd (rd_build rfl rfl rfl) rfl ?_
  refine xo_ef rfl (ef_storeB [] _ rfl rfl (by first | rfl | assumption) rfl rfl rfl ?_)
  refine xo_rd (rd_assign rfl) rfl ?_
  refine xo_nil ?_
  refine xq_seq ?_
  refine xc_ret ?_
  refine xq_then_ret ?_
  exact xq_retB2 (.inl rfl) Try.results19 rfl rfl Kn.o0 rfl (List.sublist_cons_self _ _) ⟨rfl, rfl⟩

theorem xf_rnew {W : World} {L : List Blk} (r b a : Int) (hb : b ≠ 0) : XF Try.prog W 19 #[.int .u64 r, .int .u64 b, .int .u64 a] L (fun v L' => v = .tuple #[.agg (Bk.mk r b b a).enc.toArray, .int .i64 0] ∧ L' = L) := by
  refine xf_enter (args := [.int .u64 r, .int .u64 b, .int .u64 a]) Try.func19 rfl Try.ntmps19 rfl ?_
  refine xc_seq ?_
  refine xc_region ?_
  refine xo_ef rfl (ef_alloc fun r1 => ?_)
  refine xo_rd (rd_assign rfl) rfl ?_
  refine xo_nil ?_
  refine xq_seq ?_
  refine xc_seq ?_
  refine xc_seq ?_
  refine xc_region ?_
  refine xo_rd (rd_move rfl) rfl ?_
  refine xo_rd (rd_eql rfl rfl) rfl ?_
  refine xo_nil ?_
  refine xq_seq ?_
  refine xc_dec rfl (fun h => absurd h hb) (fun h => ?_)
  refine xc_skip ?_
  refine xq_seq ?_
  refine xc_seq ?_
  refine xc_region ?_
  refine xo_rd (rd_move rfl) rfl ?_
  refine xo_rd (rd_move rfl) rfl ?_
  refine xo_rd (rd_move rfl) rfl ?_
  refine xo_rd (rd_move rfl) rfl ?_
  refine xo_rd (rd_build rfl rfl rfl) rfl ?_
  refine xo_ef rfl (ef_storeB [] _ rfl rfl (by first | rfl | assumption) rfl rfl rfl ?_)
  refine xo_rd (rd_assign rfl) rfl ?_
  refine xo_nil ?_
  refine xq_seq ?_
  refine xc_ret ?_
  exact xq_retB2 (.inl rfl) Try.results19 rfl rfl Kn.o0 rfl (List.sublist_cons_self _ _) ⟨rfl, rfl⟩

set_option maxHeartbeats 8000000 in
theorem xf_rfill {W : World} {L : List Blk} (x : Bk) (n : Int) (hx : x.Ok) (hn : 0 ≤ n) (hn' : n ≤ top) : XF Try.prog W 22 #[.agg x.enc.toArray, .int .u64 n] L (fun v L' => v = .agg (x.fill n).enc.toArray ∧ L' = L) := by
  refine xf_enter (args := [.agg x.enc.toArray, .int .u64 n]) Try.func22 rfl Try.ntmps22 rfl ?_
  refine xc_seq ?_
  refine xc_region ?_
  refine xo_ef rfl (ef_box rfl fun r1 => ?_)
  skip
  refine xo_ef rfl (ef_alloc fun r2 => ?_)
  refine xo_nil ?_
  refine xq_seq ?_
  refine xc_seq ?_
  refine xc_seq ?_
  refine xc_region ?_
  refine xo_rd (rd_move rfl) rfl ?_
  refine xo_rd (rd_fieldAddr rfl) rfl ?_
  refine xo_rd (rd_load1 rfl (Cl.o1 rfl)) rfl ?_
  refine xo_rd (rd_leq rfl rfl) rfl ?_
  refine xo_nil ?_
  refine xq_seq ?_
  refine xc_dec rfl (fun h => ?_) (fun h => ?_)
  · rw [show x.fill n = x from if_neg (by omega)]
    refine xc_seq ?_
    refine xc_region ?_
    refine xo_rd (rd_loadB rfl (Kn.o1) (by rfl)) rfl ?_
    refine xo_ef rfl (ef_storeB [] _ rfl rfl (by first | rfl | assumption) rfl rfl rfl ?_)
    refine xo_nil ?_
    refine xq_seq ?_
    refine xc_ret ?_
    refine xq_then_ret ?_
    exact xq_retB (.inl rfl) Try.results22 rfl Kn.o0 rfl (List.sublist_append_right [_, _] _) ⟨rfl, rfl⟩
  · have hf : x.fill n = ⟨x.r, x.b, cut x.b (plus x.t (times x.r (n - x.a))), n⟩ := if_pos (by omega)
    have d0 := hx.a0
    have hr0 := hx.r0
    have hr1 := hx.r1
    have ht0 := hx.t0
    have ht1 := hx.t1
    have e1 : 0 ≤ n - x.a := by omega
    have e2 : n - x.a ≤ top := by omega
    rw [hf]
    refine xc_skip ?_
    refine xq_seq ?_
    refine xc_seq ?_
    have hM : ∀ w, Hp W w ((r2, Obj.cells (Value.agg #[.int .u64 0, .int .u64 0, .int .u64 0, .int .u64 0]).cells 42 (0, 0)) :: (r1, Obj.cells (Value.agg x.enc.toArray).cells 42 (0, 0)) :: L) → x.S42 W r1 L w := fun w hw => ⟨.int .u64 x.t, hw.sub (List.sublist_cons_self _ _)⟩
    refine xs_draw (x.S42 W r1 L) ?_
    refine xs_take 0 rfl (by kernel_rfl) (by kernel_rfl) (by kernel_rfl) hM (fun w ⟨u, hu⟩ => ⟨_, hu, rd_fieldAddr rfl⟩) rfl ?_
    refine xs_take 1 rfl (by kernel_rfl) (by kernel_rfl) (by kernel_rfl) hM (fun w ⟨u, hu⟩ => ⟨_, hu, rd_load1 rfl (Cl.o0 (vs := [_, _, _, _]) rfl)⟩) rfl ?_
    refine xs_take 2 rfl (by kernel_rfl) (by kernel_rfl) (by kernel_rfl) hM (fun w ⟨u, hu⟩ => ⟨_, hu, rd_fieldAddr rfl⟩) rfl ?_
    refine xs_take 4 rfl (by kernel_rfl) (by kernel_rfl) (by kernel_rfl) hM (fun w ⟨u, hu⟩ => ⟨_, hu, rd_fieldAddr rfl⟩) rfl ?_
    refine xs_take 5 rfl (by kernel_rfl) (by kernel_rfl) (by kernel_rfl) hM (fun w ⟨u, hu⟩ => ⟨_, hu, rd_load1 rfl (Cl.o0 (vs := [_, _, _, _]) rfl)⟩) rfl ?_
    refine xs_take 6 rfl (by kernel_rfl) (by kernel_rfl) (by kernel_rfl) hM (fun w ⟨u, hu⟩ => ⟨_, hu, rd_move rfl⟩) rfl ?_
    refine xs_take 7 rfl (by kernel_rfl) (by kernel_rfl) (by kernel_rfl) hM (fun w ⟨u, hu⟩ => ⟨_, hu, rd_fieldAddr rfl⟩) rfl ?_
    refine xs_take 8 rfl (by kernel_rfl) (by kernel_rfl) (by kernel_rfl) hM (fun w ⟨u, hu⟩ => ⟨_, hu, rd_load1 rfl (Cl.o0 (vs := [_, _, _, _]) rfl)⟩) rfl ?_
    refine xs_take 9 rfl (by kernel_rfl) (by kernel_rfl) (by kernel_rfl) hM (fun w ⟨u, hu⟩ => ⟨_, hu, rd_subn rfl rfl (by omega) (by unfold top at e2; omega)⟩) rfl ?_
    refine xs_two 3 10 rfl rfl (by kernel_rfl) rfl rfl (ef_rd (rd_load1 rfl (Cl.o1 rfl)) ⟨hM, ?_⟩) (ef_call rfl ((xf_rtimes x.r (n - x.a) hr0 hr1 e1 e2).mono ?_))
    · refine xs_one 10 rfl (by kernel_rfl) rfl (ef_call rfl ((xf_rtimes x.r (n - x.a) hr0 hr1 e1 e2).mono ?_))
      rintro v L' ⟨rfl, rfl⟩
      refine ⟨hM, ?_⟩
      refine xs_one 11 rfl (by kernel_rfl) rfl ?_
      refine ef_call rfl ((xf_rplus x.t (times x.r (n - x.a)) ht0 ht1 (times_nonneg hr0 e1) (times_le _ _)).mono ?_)
      rintro v L' ⟨rfl, rfl⟩
      refine ⟨hM, ?_⟩
      refine xs_take 12 rfl (by kernel_rfl) (by kernel_rfl) (by kernel_rfl) hM (fun w ⟨u, hu⟩ => ⟨_, hu, rd_min rfl rfl⟩) rfl ?_
      refine xs_take 13 rfl (by kernel_rfl) (by kernel_rfl) (by kernel_rfl) hM (fun w ⟨u, hu⟩ => ⟨_, hu, rd_fieldAddr rfl⟩) rfl ?_
      refine xs_one 14 rfl (by kernel_rfl) rfl ?_
      refine ef_store1 [_] _ rfl rfl rfl rfl rfl rfl ?_
      refine ⟨fun w hw => ⟨_, (hw.sub (List.sublist_cons_self _ _))⟩, ?_⟩
      refine xs_done (by kernel_rfl) ?_
      refine xq_seq ?_
      refine xc_seq ?_
      refine xc_region ?_
      refine xo_rd (rd_move rfl) rfl ?_
      refine xo_rd (rd_fieldAddr rfl) rfl ?_
      refine xo_ef rfl (ef_store1 [_] _ rfl rfl (by first | rfl | assumption) rfl rfl rfl ?_)
      refine xo_nil ?_
      refine xq_seq ?_
      refine xc_seq ?_
      refine xc_region ?_
      refine xo_rd (rd_loadB rfl (Kn.o1) (by rfl)) rfl ?_
      refine xo_ef rfl (ef_storeB [] _ rfl rfl (by first | rfl | assumption) rfl rfl rfl ?_)
      refine xo_nil ?_
      refine xq_seq ?_
      refine xc_ret ?_
      exact xq_retB (.inl rfl) Try.results22 rfl Kn.o0 rfl (List.sublist_append_right [_, _] _) ⟨rfl, rfl⟩
    · rintro v L' ⟨rfl, rfl⟩
      refine ⟨hM, ?_⟩
      refine xs_one 3 rfl (by kernel_rfl) rfl (ef_rd (rd_load1 rfl (Cl.o1 rfl)) ⟨hM, ?_⟩)
      refine xs_one 11 rfl (by kernel_rfl) rfl ?_
      refine ef_call rfl ((xf_rplus x.t (times x.r (n - x.a)) ht0 ht1 (times_nonneg hr0 e1) (times_le _ _)).mono ?_)
      rintro v L' ⟨rfl, rfl⟩
      refine ⟨hM, ?_⟩
      refine xs_take 12 rfl (by kernel_rfl) (by kernel_rfl) (by kernel_rfl) hM (fun w ⟨u, hu⟩ => ⟨_, hu, rd_min rfl rfl⟩) rfl ?_
      refine xs_take 13 rfl (by kernel_rfl) (by kernel_rfl) (by kernel_rfl) hM (fun w ⟨u, hu⟩ => ⟨_, hu, rd_fieldAddr rfl⟩) rfl ?_
      refine xs_one 14 rfl (by kernel_rfl) rfl ?_
      refine ef_store1 [_] _ rfl rfl rfl rfl rfl rfl ?_
      refine ⟨fun w hw => ⟨_, (hw.sub (List.sublist_cons_self _ _))⟩, ?_⟩
      refine xs_done (by kernel_rfl) ?_
      refine xq_seq ?_
      refine xc_seq ?_
      refine xc_region ?_
      refine xo_rd (rd_move rfl) rfl ?_
      refine xo_rd (rd_fieldAddr rfl) rfl ?_
      refine xo_ef rfl (ef_store1 [_] _ rfl rfl (by first | rfl | assumption) rfl rfl rfl ?_)
      refine xo_nil ?_
      refine xq_seq ?_
      refine xc_seq ?_
      refine xc_region ?_
      refine xo_rd (rd_loadB rfl (Kn.o1) (by rfl)) rfl ?_
      refine xo_ef rfl (ef_storeB [] _ rfl rfl (by first | rfl | assumption) rfl rfl rfl ?_)
      refine xo_nil ?_
      refine xq_seq ?_
      refine xc_ret ?_
      exact xq_retB (.inl rfl) Try.results22 rfl Kn.o0 rfl (List.sublist_append_right [_, _] _) ⟨rfl, rfl⟩

theorem xf_rtake {W : World} {L : List Blk} (x : Bk) (n : Int) (hx : x.Ok) (hn : 0 ≤ n) (hn' : n ≤ top) : XF Try.prog W 25 #[.agg x.enc.toArray, .int .u64 n] L (fun v L' => v = .tuple #[.agg (x.take n).enc.toArray, .bool (decide (x.may n))] ∧ L' = L) := by
  refine xf_enter (args := [.agg x.enc.toArray, .int .u64 n]) Try.func25 rfl Try.ntmps25 rfl ?_
  refine xc_seq ?_
  refine xc_region ?_
  refine xo_ef rfl (ef_box rfl fun r1 => ?_)
  skip
  refine xo_ef rfl (ef_alloc fun r2 => ?_)
  refine xo_rd (rd_assign rfl) rfl ?_
  refine xo_nil ?_
  refine xq_seq ?_
  refine xc_seq ?_
  refine xc_seq ?_
  refine xc_region ?_
  refine xo_rd (rd_move rfl) rfl ?_
  refine xo_rd (rd_fieldAddr rfl) rfl ?_
  refine xo_rd (rd_load1 rfl (Cl.o1 rfl)) rfl ?_
  refine xo_rd (rd_gtr rfl rfl) rfl ?_
  refine xo_nil ?_
  refine xq_seq ?_
  refine xc_dec rfl (fun h => ?_) (fun h => ?_)
  · have hm : ¬ x.may n := by unfold Bk.may; omega
    rw [show x.take n = x from if_neg hm, decide_eq_false hm]
    refine xc_seq ?_
    refine xc_region ?_
    refine xo_rd (rd_loadB rfl (Kn.o1) (by rfl)) rfl ?_
    refine xo_ef rfl (ef_storeB [] _ rfl rfl (by first | rfl | assumption) rfl rfl rfl ?_)
    refine xo_rd (rd_assign rfl) rfl ?_
    refine xo_nil ?_
    refine xq_seq ?_
    refine xc_ret ?_
    refine xq_then_ret ?_
    exact xq_retB2 (.inl rfl) Try.results25 rfl rfl Kn.o0 rfl (List.sublist_append_right [_, _] _) ⟨rfl, rfl⟩
  · have hm : x.may n := by unfold Bk.may; omega
    rw [show x.take n = ⟨x.r, x.b, x.t - n, x.a⟩ from if_pos hm, decide_eq_true hm]
    have e : IntKind.u64.wrap (x.t - n) = x.t - n := by have := hx.t1; rw [wrap_u64]; unfold top at this; omega
    rw [← e]
    refine xc_skip ?_
    refine xq_seq ?_
    refine xc_seq ?_
    refine xc_region ?_
    refine xo_rd (rd_fieldAddr rfl) rfl ?_
    refine xo_rd (rd_load1 rfl (Cl.o1 rfl)) rfl ?_
    refine xo_rd (rd_move rfl) rfl ?_
    refine xo_rd (rd_sub rfl rfl) rfl ?_
    refine xo_rd (rd_fieldAddr rfl) rfl ?_
    refine xo_ef rfl (ef_store1 [_] _ rfl rfl (by first | rfl | assumption) rfl rfl rfl ?_)
    refine xo_nil ?_
    refine xq_seq ?_
    refine xc_seq ?_
    refine xc_region ?_
    refine xo_rd (rd_loadB rfl (Kn.o1) (by rfl)) rfl ?_
    refine xo_ef rfl (ef_storeB [] _ rfl rfl (by first | rfl | assumption) rfl rfl rfl ?_)
    refine xo_rd (rd_assign rfl) rfl ?_
    refine xo_nil ?_
    refine xq_seq ?_
    refine xc_ret ?_
    exact xq_retB2 (.inl rfl) Try.results25 rfl rfl Kn.o0 rfl (List.sublist_append_right [_, _] _) ⟨rfl, rfl⟩

theorem xf_rchange {W : World} {L : List Blk} (x : Bk) (n : Int) (hx : x.Ok) (hn : 0 ≤ n) (hn' : n ≤ top) (r : Int) : XF Try.prog W 24 #[.agg x.enc.toArray, .int .u64 r, .int .u64 n] L (fun v L' => v = .agg (x.change r n).enc.toArray ∧ L' = L) := by
  refine xf_enter (args := [.agg x.enc.toArray, .int .u64 r, .int .u64 n]) Try.func24 rfl Try.ntmps24 rfl ?_
  refine xc_seq ?_
  refine xc_region ?_
  refine xo_ef rfl (ef_box rfl fun r1 => ?_)
  skip
  refine xo_ef rfl (ef_alloc fun r2 => ?_)
  refine xo_nil ?_
  refine xq_seq ?_
  refine xc_seq ?_
  refine xc_region ?_
  refine xo_rd (rd_loadB rfl (Kn.o1) (by rfl)) rfl ?_
  refine xo_rd (rd_move rfl) rfl ?_
  refine xo_ef rfl (ef_call rfl ((xf_rfill x n hx hn hn').mono ?_))
  rintro v L' ⟨rfl, rfl⟩
  refine xo_ef rfl (ef_storeB [_] _ rfl rfl (by first | rfl | assumption) rfl rfl rfl ?_)
  refine xo_nil ?_
  refine xq_seq ?_
  refine xc_seq ?_
  refine xc_region ?_
  refine xo_rd (rd_move rfl) rfl ?_
  refine xo_rd (rd_fieldAddr rfl) rfl ?_
  refine xo_ef rfl (ef_store1 [_] _ rfl rfl (by first | rfl | assumption) rfl rfl rfl ?_)
  refine xo_nil ?_
  refine xq_seq ?_
  refine xc_seq ?_
  refine xc_region ?_
  refine xo_rd (rd_loadB rfl (Kn.o1) (by rfl)) rfl ?_
  refine xo_ef rfl (ef_storeB [] _ rfl rfl (by first | rfl | assumption) rfl rfl rfl ?_)
  refine xo_nil ?_
  refine xq_seq ?_
  refine xc_ret ?_
  exact xq_retB (.inl rfl) Try.results24 rfl Kn.o0 rfl (List.sublist_append_right [_, _] _) ⟨rfl, rfl⟩

theorem ceil_eq (m r : Int) (hm : 1 ≤ m) (hr : 1 ≤ r) : (m - 1) / r + 1 = if 0 < m % r then m / r + 1 else m / r := by
  have h := Int.mul_ediv_add_emod m r
  have h0 := Int.emod_nonneg m (show r ≠ 0 by omega)
  have h1 := Int.emod_lt_of_pos m (show 0 < r by omega)
  generalize m % r = p at *
  generalize m / r = q at *
  rw [Int.mul_comm] at h
  split
  · rw [show m - 1 = (p - 1) + q * r by omega, Int.add_mul_ediv_right _ _ (by omega), Int.ediv_eq_zero_of_lt (by omega) (by omega)]
    omega
  · have e : (q - 1) * r = q * r - r := by rw [Int.sub_mul, Int.one_mul]
    rw [show m - 1 = (r - 1) + (q - 1) * r by omega, Int.add_mul_ediv_right _ _ (by omega), Int.ediv_eq_zero_of_lt (by omega) (by omega)]
    omega

set_option maxHeartbeats 8000000 in
theorem xf_runtil {W : World} {L : List Blk} (x : Bk) (n : Int) (hx : x.Ok) (hn : 0 ≤ n) (hn' : n ≤ top) : XF Try.prog W 33 #[.agg x.enc.toArray, .int .u64 n] L (fun v L' => v = .tuple #[.int .u64 (x.until' n).1, .bool (x.until' n).2] ∧ L' = L) := by
  refine xf_enter (args := [.agg x.enc.toArray, .int .u64 n]) Try.func33 rfl Try.ntmps33 rfl ?_
  refine xc_seq ?_
  refine xc_region ?_
  refine xo_ef rfl (ef_box rfl fun r1 => ?_)
  refine xo_rd (rd_assign rfl) rfl ?_
  refine xo_rd (rd_assign rfl) rfl ?_
  refine xo_nil ?_
  refine xq_seq ?_
  refine xc_seq ?_
  refine xc_seq ?_
  refine xc_region ?_
  refine xo_rd (rd_move rfl) rfl ?_
  refine xo_rd (rd_fieldAddr rfl) rfl ?_
  refine xo_rd (rd_load1 rfl (Cl.o0 rfl)) rfl ?_
  refine xo_rd (rd_leq rfl rfl) rfl ?_
  refine xo_nil ?_
  refine xq_seq ?_
  refine xc_dec rfl (fun h => ?_) (fun h => ?_)
  · rw [show x.until' n = (x.a, true) from if_pos h]
    refine xc_seq ?_
    refine xc_region ?_
    refine xo_rd (rd_fieldAddr rfl) rfl ?_
    refine xo_rd (rd_load1 rfl (Cl.o0 rfl)) rfl ?_
    refine xo_rd (rd_assign rfl) rfl ?_
    refine xo_rd (rd_assign rfl) rfl ?_
    refine xo_nil ?_
    refine xq_seq ?_
    refine xc_ret ?_
    refine xq_then_ret ?_
    refine xq_tail ?_
    refine xq_ret2 (.inl rfl) Try.results33 rfl rfl ⟨rfl, rfl⟩
  · refine xc_skip ?_
    refine xq_seq ?_
    refine xc_seq ?_
    refine xc_seq ?_
    refine xc_region ?_
    refine xo_rd (rd_move rfl) rfl ?_
    refine xo_rd (rd_fieldAddr rfl) rfl ?_
    refine xo_rd (rd_load1 rfl (Cl.o0 rfl)) rfl ?_
    refine xo_rd (rd_gtr rfl rfl) rfl ?_
    refine xo_rd (rd_move rfl) rfl ?_
    refine xo_dec 18 rfl (fun h2 => ?_) (fun h2 => ?_)
    · rw [show x.until' n = (0, false) from (if_neg h).trans (if_pos (.inl h2))]
      refine xo_gskip rfl rfl rfl rfl ?_
      refine xo_gskip rfl rfl rfl rfl ?_
      refine xo_gskip rfl rfl rfl rfl ?_
      refine xo_rd (rd_pickt rfl rfl) rfl ?_
      refine xo_nil ?_
      refine xq_seq ?_
      refine xc_condt rfl ?_
      refine xc_seq ?_
      refine xc_region ?_
      refine xo_rd (rd_assign rfl) rfl ?_
      refine xo_rd (rd_assign rfl) rfl ?_
      refine xo_nil ?_
      refine xq_seq ?_
      refine xc_ret ?_
      refine xq_then_ret ?_
      refine xq_tail ?_
      refine xq_ret2 (.inl rfl) Try.results33 rfl rfl ⟨rfl, rfl⟩
    · refine xo_grd rfl rfl (rd_fieldAddr rfl) rfl ?_
      refine xo_grd rfl rfl (rd_load1 rfl (Cl.o0 rfl)) rfl ?_
      refine xo_grd rfl rfl (rd_eql rfl rfl) rfl ?_
      refine xo_rd (rd_pickf rfl rfl) rfl ?_
      refine xo_nil ?_
      refine xq_seq ?_
      refine xc_dec rfl (fun h3 => ?_) (fun h3 => ?_)
      · rw [show x.until' n = (0, false) from (if_neg h).trans (if_pos (.inr h3))]
        refine xc_seq ?_
        refine xc_region ?_
        refine xo_rd (rd_assign rfl) rfl ?_
        refine xo_rd (rd_assign rfl) rfl ?_
        refine xo_nil ?_
        refine xq_seq ?_
        refine xc_ret ?_
        refine xq_then_ret ?_
        refine xq_tail ?_
        refine xq_ret2 (.inl rfl) Try.results33 rfl rfl ⟨rfl, rfl⟩
      · have hu : x.until' n = _ := (if_neg h).trans (if_neg (by rintro (h | h); exact h2 h; exact h3 h))
        have h' : ¬ n ≤ x.t := h
        have ht0 := hx.t0
        have hr0 := hx.r0
        have hr1 := hx.r1
        have ha0 := hx.a0
        have ha1 := hx.a1
        refine xc_skip ?_
        refine xq_seq ?_
        refine xc_seq ?_
        refine xc_region ?_
        refine xo_rd (rd_move rfl) rfl ?_
        refine xo_rd (rd_fieldAddr rfl) rfl ?_
        refine xo_rd (rd_load1 rfl (Cl.o0 rfl)) rfl ?_
        refine xo_rd (rd_sub rfl rfl) rfl ?_
        refine xo_rd (rd_assign rfl) rfl ?_
        refine xo_nil ?_
        refine xq_seq ?_
        refine xc_seq ?_
        refine xc_region ?_
        refine xo_rd (rd_move rfl) rfl ?_
        refine xo_rd (rd_fieldAddr rfl) rfl ?_
        refine xo_rd (rd_load1 rfl (Cl.o0 rfl)) rfl ?_
        have e1 : IntKind.u64.wrap (n - x.t) = n - x.t := by rw [wrap_u64]; unfold top at hn'; omega
        rw [e1]
        have q0 : 0 ≤ (n - x.t) / x.r := Int.ediv_nonneg (by omega) hr0
        have q1 : (n - x.t) / x.r ≤ n - x.t := Int.ediv_le_self _ (by omega)
        rw [ceil_eq _ _ (by omega) (by omega)] at hu
        have q2 : 0 < (n - x.t) % x.r → (n - x.t) / x.r < n - x.t := fun h => by
          have h5 := Int.mul_ediv_add_emod (n - x.t) x.r
          have h6 : (n - x.t) / x.r ≤ x.r * ((n - x.t) / x.r) := by
            have := Int.mul_le_mul_of_nonneg_right (show 1 ≤ x.r by omega) q0
            omega
          omega
        refine xo_rd (rd_quon rfl rfl (by omega) (by omega) (by unfold top at hn'; omega) (by decide)) rfl ?_
        refine xo_rd (rd_assign rfl) rfl ?_
        refine xo_nil ?_
        refine xq_seq ?_
        refine xc_seq ?_
        refine xc_seq ?_
        refine xc_region ?_
        refine xo_rd (rd_move rfl) rfl ?_
        refine xo_rd (rd_fieldAddr rfl) rfl ?_
        refine xo_rd (rd_load1 rfl (Cl.o0 rfl)) rfl ?_
        refine xo_rd (rd_remn rfl rfl (by omega) (by omega)) rfl ?_
        refine xo_rd (rd_gtr rfl rfl) rfl ?_
        refine xo_nil ?_
        refine xq_seq ?_
        have e3 : IntKind.u64.wrap (top - x.a) = top - x.a := by rw [wrap_u64]; unfold top at ha1 ⊢; omega
        generalize (n - x.t) / x.r = q at *
        generalize (n - x.t) % x.r = p at *
        refine xc_dec rfl (fun h5 => ?_) (fun h5 => ?_)
        · rw [if_pos h5] at hu
          have e4 : IntKind.u64.wrap (q + 1) = q + 1 := by have := q2 h5; rw [wrap_u64]; unfold top at hn'; omega
          refine xc_region ?_
          refine xo_rd (rd_move rfl) rfl ?_
          refine xo_rd (rd_add rfl rfl) rfl ?_
          refine xo_rd (rd_assign rfl) rfl ?_
          refine xo_nil ?_
          refine xq_seq ?_
          refine xc_seq ?_
          refine xc_seq ?_
          rw [e4]
          skip
          refine xc_draw [(r1, .cells (Value.agg x.enc.toArray).cells 42 (0, 0))] ?_
          refine xr_take 0 rfl (by kernel_rfl) (by kernel_rfl) (by kernel_rfl) (by first | exact Sb.refl | exact Sb.nil | (repeat (first | exact Sb.nil | exact Sb.refl | apply Sb.keep | apply Sb.cons))) (rd_move rfl) rfl ?_
          refine xr_take 2 rfl (by kernel_rfl) (by kernel_rfl) (by kernel_rfl) (by first | exact Sb.refl | exact Sb.nil | (repeat (first | exact Sb.nil | exact Sb.refl | apply Sb.keep | apply Sb.cons))) (rd_fieldAddr rfl) rfl ?_
          refine xr_take 3 rfl (by kernel_rfl) (by kernel_rfl) (by kernel_rfl) (by first | exact Sb.refl | exact Sb.nil | (repeat (first | exact Sb.nil | exact Sb.refl | apply Sb.keep | apply Sb.cons))) (rd_load1 rfl (Cl.o0 rfl)) rfl ?_
          refine xr_one 1 rfl (by kernel_rfl) rfl ?_
          refine ef_call rfl (xf_top.mono ?_)
          rintro v L' ⟨rfl, rfl⟩
          refine ⟨(by first | exact Sb.refl | exact Sb.nil | (repeat (first | exact Sb.nil | exact Sb.refl | apply Sb.keep | apply Sb.cons))), ?_⟩
          refine xr_take 4 rfl (by kernel_rfl) (by kernel_rfl) (by kernel_rfl) (by first | exact Sb.refl | exact Sb.nil | (repeat (first | exact Sb.nil | exact Sb.refl | apply Sb.keep | apply Sb.cons))) (rd_sub rfl rfl) rfl ?_
          refine xr_take 5 rfl (by kernel_rfl) (by kernel_rfl) (by kernel_rfl) (by first | exact Sb.refl | exact Sb.nil | (repeat (first | exact Sb.nil | exact Sb.refl | apply Sb.keep | apply Sb.cons))) (rd_gtr rfl rfl) rfl ?_
          refine xr_done (by kernel_rfl) ?_
          refine xq_seq ?_
          rw [e3]
          refine xc_dec rfl (fun h4 => ?_) (fun h4 => ?_)
          · rw [if_pos h4] at hu
            refine xc_seq ?_
            refine xc_region ?_
            refine xo_rd (rd_assign rfl) rfl ?_
            refine xo_rd (rd_assign rfl) rfl ?_
            refine xo_nil ?_
            refine xq_seq ?_
            refine xc_ret ?_
            refine xq_then_ret ?_
            refine xq_tail ?_
            refine xq_ret2 (.inl rfl) Try.results33 rfl rfl ⟨by rw [hu], rfl⟩
          · rw [if_neg h4] at hu
            refine xc_skip ?_
            refine xq_seq ?_
            refine xc_seq ?_
            refine xc_region ?_
            refine xo_rd (rd_fieldAddr rfl) rfl ?_
            refine xo_rd (rd_load1 rfl (Cl.o0 rfl)) rfl ?_
            refine xo_rd (rd_move rfl) rfl ?_
            refine xo_rd (rd_add rfl rfl) rfl ?_
            refine xo_rd (rd_assign rfl) rfl ?_
            refine xo_rd (rd_assign rfl) rfl ?_
            refine xo_nil ?_
            refine xq_seq ?_
            refine xc_ret ?_
            have e5 : IntKind.u64.wrap (x.a + (q + 1)) = x.a + (q + 1) := by rw [wrap_u64]; unfold top at h4; omega
            rw [e5]
            refine xq_tail ?_
            refine xq_ret2 (.inl rfl) Try.results33 rfl rfl ⟨by rw [hu], rfl⟩
        · rw [if_neg h5] at hu
          refine xc_skip ?_
          refine xq_seq ?_
          refine xc_seq ?_
          refine xc_seq ?_
          refine xc_draw [(r1, .cells (Value.agg x.enc.toArray).cells 42 (0, 0))] ?_
          refine xr_take 0 rfl (by kernel_rfl) (by kernel_rfl) (by kernel_rfl) (by first | exact Sb.refl | exact Sb.nil | (repeat (first | exact Sb.nil | exact Sb.refl | apply Sb.keep | apply Sb.cons))) (rd_move rfl) rfl ?_
          refine xr_take 2 rfl (by kernel_rfl) (by kernel_rfl) (by kernel_rfl) (by first | exact Sb.refl | exact Sb.nil | (repeat (first | exact Sb.nil | exact Sb.refl | apply Sb.keep | apply Sb.cons))) (rd_fieldAddr rfl) rfl ?_
          refine xr_take 3 rfl (by kernel_rfl) (by kernel_rfl) (by kernel_rfl) (by first | exact Sb.refl | exact Sb.nil | (repeat (first | exact Sb.nil | exact Sb.refl | apply Sb.keep | apply Sb.cons))) (rd_load1 rfl (Cl.o0 rfl)) rfl ?_
          refine xr_one 1 rfl (by kernel_rfl) rfl ?_
          refine ef_call rfl (xf_top.mono ?_)
          rintro v L' ⟨rfl, rfl⟩
          refine ⟨(by first | exact Sb.refl | exact Sb.nil | (repeat (first | exact Sb.nil | exact Sb.refl | apply Sb.keep | apply Sb.cons))), ?_⟩
          refine xr_take 4 rfl (by kernel_rfl) (by kernel_rfl) (by kernel_rfl) (by first | exact Sb.refl | exact Sb.nil | (repeat (first | exact Sb.nil | exact Sb.refl | apply Sb.keep | apply Sb.cons))) (rd_sub rfl rfl) rfl ?_
          refine xr_take 5 rfl (by kernel_rfl) (by kernel_rfl) (by kernel_rfl) (by first | exact Sb.refl | exact Sb.nil | (repeat (first | exact Sb.nil | exact Sb.refl | apply Sb.keep | apply Sb.cons))) (rd_gtr rfl rfl) rfl ?_
          refine xr_done (by kernel_rfl) ?_
          refine xq_seq ?_
          rw [e3]
          refine xc_dec rfl (fun h4 => ?_) (fun h4 => ?_)
          · rw [if_pos h4] at hu
            refine xc_seq ?_
            refine xc_region ?_
            refine xo_rd (rd_assign rfl) rfl ?_
            refine xo_rd (rd_assign rfl) rfl ?_
            refine xo_nil ?_
            refine xq_seq ?_
            refine xc_ret ?_
            refine xq_then_ret ?_
            refine xq_tail ?_
            refine xq_ret2 (.inl rfl) Try.results33 rfl rfl ⟨by rw [hu], rfl⟩
          · rw [if_neg h4] at hu
            refine xc_skip ?_
            refine xq_seq ?_
            refine xc_seq ?_
            refine xc_region ?_
            refine xo_rd (rd_fieldAddr rfl) rfl ?_
            refine xo_rd (rd_load1 rfl (Cl.o0 rfl)) rfl ?_
            refine xo_rd (rd_move rfl) rfl ?_
            refine xo_rd (rd_add rfl rfl) rfl ?_
            refine xo_rd (rd_assign rfl) rfl ?_
            refine xo_rd (rd_assign rfl) rfl ?_
            refine xo_nil ?_
            refine xq_seq ?_
            refine xc_ret ?_
            have e5 : IntKind.u64.wrap (x.a + (q)) = x.a + (q) := by rw [wrap_u64]; unfold top at h4; omega
            rw [e5]
            refine xq_tail ?_
            refine xq_ret2 (.inl rfl) Try.results33 rfl rfl ⟨by rw [hu], rfl⟩

end Go.Proofs.Ytjjbkpfknihkbaa.X
