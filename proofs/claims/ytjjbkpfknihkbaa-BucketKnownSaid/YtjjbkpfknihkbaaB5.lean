/-
  What the bucket's laws call besides, by walks of my own.
-/
import Derived.Test.YtjjbkpfknihkbaaB3
import Derived.Test.YtjjbkpfknihkbaaB4
namespace Go.Proofs.Ytjjbkpfknihkbaa.X
open Go Go.RowKit
set_option linter.unusedVariables false

theorem Bk.Ok.new {r b a : Int} (hr : 0 ≤ r) (hr' : r ≤ top) (hb : 0 < b) (hb' : b ≤ top) (ha : 0 ≤ a) (ha' : a ≤ top) : (Bk.mk r b b a).Ok :=
  ⟨hr, hr', hb, hb', by dsimp only; omega, hb', Int.le_refl _, ha, ha'⟩
theorem Bk.Ok.fill {x : Bk} (h : x.Ok) {n : Int} (hn : 0 ≤ n) (hn' : n ≤ top) : (x.fill n).Ok := by
  unfold Bk.fill
  split
  · have h1 := plus_nonneg h.t0 (times_nonneg h.r0 (show 0 ≤ n - x.a by have := h.a0; omega))
    have h3 := h.b2
    have h4 := h.b1
    refine ⟨h.r0, h.r1, h.b1, h.b2, ?_, ?_, ?_, hn, hn'⟩ <;> dsimp only <;> unfold cut <;> split <;> omega
  · exact h
theorem Bk.Ok.take {x : Bk} (h : x.Ok) {n : Int} (hn : 0 ≤ n) : (x.take n).Ok := by
  unfold Bk.take
  split
  · rename_i hm
    have hm' : n ≤ x.t := hm
    have h1 := h.t1
    have h2 := h.tb
    refine ⟨h.r0, h.r1, h.b1, h.b2, ?_, ?_, ?_, h.a0, h.a1⟩ <;> dsimp only <;> omega
  · exact h
theorem Bk.Ok.change {x : Bk} (h : x.Ok) {r n : Int} (hr : 0 ≤ r) (hr' : r ≤ top) (hn : 0 ≤ n) (hn' : n ≤ top) : (x.change r n).Ok := by
  have h1 := h.fill hn hn'
  exact ⟨hr, hr', h1.b1, h1.b2, h1.t0, h1.t1, h1.tb, h1.a0, h1.a1⟩

set_option maxHeartbeats 8000000 in
theorem xf_works {W : World} {L : List Blk} : XF Try.prog W 10 #[] L (fun v L' => v = .bool true ∧ L' = L) := by
  refine xf_enter (args := []) Try.func10 rfl Try.ntmps10 rfl ?_
  refine xc_seq ?_
  refine xc_region ?_
  refine xo_rd (rd_assign rfl) rfl ?_
  refine xo_nil ?_
  refine xq_seq ?_
  refine xc_seq ?_
  refine xc_region ?_
  refine xo_ef rfl (ef_call rfl ((xf_new 10 25 0 (by decide)).mono ?_))
  rintro v L' ⟨p, rfl, rfl⟩
  have t1 := xf_take (W := W) (L := L) ⟨10, 25, 25, 0⟩ p 20 (Bk.Ok.new (by decide) (by decide) (by decide) (by decide) (by decide) (by decide)) (by decide) (by decide)
  rw [show Bk.take ⟨10, 25, 25, 0⟩ 20 = ⟨10, 25, 5, 0⟩ from by decide, show decide (Bk.may ⟨10, 25, 25, 0⟩ 20) = true from by decide] at t1
  have o2 : Bk.Ok ⟨10, 25, 5, 0⟩ := by constructor <;> decide
  have o3 : Bk.Ok ⟨10, 25, 15, 1⟩ := by constructor <;> decide
  have o4 : Bk.Ok ⟨10, 25, 25, 4⟩ := by constructor <;> decide
  have t2 := xf_take (W := W) (L := L) ⟨10, 25, 5, 0⟩ p 6 o2 (by decide) (by decide)
  rw [show Bk.take ⟨10, 25, 5, 0⟩ 6 = ⟨10, 25, 5, 0⟩ from by decide, show decide (Bk.may ⟨10, 25, 5, 0⟩ 6) = false from by decide] at t2
  have t3 := xf_until (W := W) (L := L) ⟨10, 25, 5, 0⟩ p 6 o2 (by decide) (by decide)
  rw [show Bk.until' ⟨10, 25, 5, 0⟩ 6 = (1, true) from by decide] at t3
  have t4 := xf_until (W := W) (L := L) ⟨10, 25, 5, 0⟩ p 26 o2 (by decide) (by decide)
  rw [show Bk.until' ⟨10, 25, 5, 0⟩ 26 = (0, false) from by decide] at t4
  have t5 := xf_fill (W := W) (L := L) ⟨10, 25, 5, 0⟩ p 1 o2 (by decide) (by decide)
  rw [show Bk.fill ⟨10, 25, 5, 0⟩ 1 = ⟨10, 25, 15, 1⟩ from by decide] at t5
  have t6 := xf_fill (W := W) (L := L) ⟨10, 25, 15, 1⟩ p 4 o3 (by decide) (by decide)
  rw [show Bk.fill ⟨10, 25, 15, 1⟩ 4 = ⟨10, 25, 25, 4⟩ from by decide] at t6
  have t7 := xf_take (W := W) (L := L) ⟨10, 25, 25, 4⟩ p 26 o4 (by decide) (by decide)
  rw [show Bk.take ⟨10, 25, 25, 4⟩ 26 = ⟨10, 25, 25, 4⟩ from by decide, show decide (Bk.may ⟨10, 25, 25, 4⟩ 26) = false from by decide] at t7
  have t8 : ∀ L, XF Try.prog W 15 #[.int .u64 10, .int .u64 25, .int .u64 4] L (fun v L' => v = .int .u64 65 ∧ L' = L) := fun L => xf_most 10 25 4 (by decide) (by decide) (by decide) (by decide) (by decide) (by decide)
  have t9 : ∀ L, XF Try.prog W 15 #[.int .u64 9223372036854775808, .int .u64 1, .int .u64 2] L (fun v L' => v = .int .u64 18446744073709551615 ∧ L' = L) := fun L => xf_most 9223372036854775808 1 2 (by decide) (by decide) (by decide) (by decide) (by decide) (by decide)
  refine xo_rd (rd_move rfl) rfl ?_
  refine xo_rd (rd_extract rfl rfl) rfl ?_
  refine xo_rd (rd_extract rfl rfl) rfl ?_
  refine xo_rd (rd_assign rfl) rfl ?_
  refine xo_rd (rd_assign rfl) rfl ?_
  refine xo_nil ?_
  refine xq_seq ?_
  refine xc_seq ?_
  refine xc_seq ?_
  refine xc_region ?_
  refine xo_rd (rd_move rfl) rfl ?_
  refine xo_rd (rd_neq rfl rfl) rfl ?_
  refine xo_rd (rd_move rfl) rfl ?_
  refine xo_grd rfl rfl (rd_move rfl) rfl ?_
  refine xo_gef rfl rfl rfl (ef_call rfl (t1.mono ?_))
  rintro v L' ⟨rfl, rfl⟩
  refine xo_grd rfl rfl (rd_not rfl) rfl ?_
  refine xo_rd (rd_pickf rfl rfl) rfl ?_
  refine xo_rd (rd_move rfl) rfl ?_
  refine xo_grd rfl rfl (rd_move rfl) rfl ?_
  refine xo_gef rfl rfl rfl (ef_call rfl (t2.mono ?_))
  rintro v L' ⟨rfl, rfl⟩
  refine xo_rd (rd_pickf rfl rfl) rfl ?_
  refine xo_nil ?_
  refine xq_seq ?_
  refine xc_condf rfl ?_
  refine xc_skip ?_
  refine xq_seq ?_
  refine xc_seq ?_
  refine xc_region ?_
  refine xo_rd (rd_move rfl) rfl ?_
  refine xo_ef rfl (ef_call rfl (t3.mono ?_))
  rintro v L' ⟨rfl, rfl⟩
  refine xo_rd (rd_move rfl) rfl ?_
  refine xo_rd (rd_extract rfl rfl) rfl ?_
  refine xo_rd (rd_extract rfl rfl) rfl ?_
  refine xo_rd (rd_assign rfl) rfl ?_
  refine xo_rd (rd_assign rfl) rfl ?_
  refine xo_nil ?_
  refine xq_seq ?_
  refine xc_seq ?_
  refine xc_region ?_
  refine xo_rd (rd_move rfl) rfl ?_
  refine xo_ef rfl (ef_call rfl (t4.mono ?_))
  rintro v L' ⟨rfl, rfl⟩
  refine xo_rd (rd_move rfl) rfl ?_
  refine xo_rd (rd_extract rfl rfl) rfl ?_
  refine xo_rd (rd_extract rfl rfl) rfl ?_
  refine xo_rd (rd_assign rfl) rfl ?_
  refine xo_rd (rd_assign rfl) rfl ?_
  refine xo_nil ?_
  refine xq_seq ?_
  refine xc_seq ?_
  refine xc_region ?_
  refine xo_rd (rd_move rfl) rfl ?_
  refine xo_rd (rd_eql rfl rfl) rfl ?_
  refine xo_rd (rd_move rfl) rfl ?_
  refine xo_grd rfl rfl (rd_move rfl) rfl ?_
  refine xo_rd (rd_pickt rfl rfl) rfl ?_
  refine xo_rd (rd_move rfl) rfl ?_
  refine xo_grd rfl rfl (rd_move rfl) rfl ?_
  refine xo_grd rfl rfl (rd_not rfl) rfl ?_
  refine xo_rd (rd_pickt rfl rfl) rfl ?_
  refine xo_rd (rd_move rfl) rfl ?_
  refine xo_grd rfl rfl (rd_move rfl) rfl ?_
  refine xo_gef rfl rfl rfl (ef_call rfl (t5.mono ?_))
  rintro v L' ⟨rfl, rfl⟩
  refine xo_grd rfl rfl (rd_eql rfl rfl) rfl ?_
  refine xo_rd (rd_pickt rfl rfl) rfl ?_
  refine xo_rd (rd_move rfl) rfl ?_
  refine xo_grd rfl rfl (rd_move rfl) rfl ?_
  refine xo_gef rfl rfl rfl (ef_call rfl (t6.mono ?_))
  rintro v L' ⟨rfl, rfl⟩
  refine xo_grd rfl rfl (rd_eql rfl rfl) rfl ?_
  refine xo_rd (rd_pickt rfl rfl) rfl ?_
  refine xo_rd (rd_move rfl) rfl ?_
  refine xo_grd rfl rfl (rd_move rfl) rfl ?_
  refine xo_gef rfl rfl rfl (ef_call rfl (t7.mono ?_))
  rintro v L' ⟨rfl, rfl⟩
  refine xo_grd rfl rfl (rd_not rfl) rfl ?_
  refine xo_rd (rd_pickt rfl rfl) rfl ?_
  refine xo_rd (rd_move rfl) rfl ?_
  refine xo_gef rfl rfl rfl (ef_call rfl ((t8 _).mono ?_))
  rintro v L' ⟨rfl, rfl⟩
  refine xo_grd rfl rfl (rd_eql rfl rfl) rfl ?_
  refine xo_rd (rd_pickt rfl rfl) rfl ?_
  refine xo_rd (rd_move rfl) rfl ?_
  refine xo_gef rfl rfl rfl (ef_call rfl ((t9 _).mono ?_))
  rintro v L' ⟨rfl, rfl⟩
  refine xo_grd rfl rfl (rd_eql rfl rfl) rfl ?_
  refine xo_rd (rd_pickt rfl rfl) rfl ?_
  refine xo_rd (rd_assign rfl) rfl ?_
  refine xo_nil ?_
  refine xq_seq ?_
  refine xc_ret ?_
  refine xq_tail ?_
  refine xq_ret1 (.inl rfl) Try.results10 rfl ⟨rfl, rfl⟩
end Go.Proofs.Ytjjbkpfknihkbaa.X
