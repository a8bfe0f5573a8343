/-
  The chapter's examples: walks of my own.
-/
import Derived.Test.YtnghandgghfloaaB1
namespace Go.Proofs.Ytnghandgghfloaa.X
open Go Go.RowKit
set_option linter.unusedVariables false
set_option linter.unusedSimpArgs false
theorem xf_example {W : World} {L : List Blk} : XF Try.prog W 23 #[] L (fun v L' => ∃ r1 r2, v = .agg #[.slice (some ⟨r1, 0, none⟩) 3 3, .slice (some ⟨r2, 0, none⟩) 2 2] ∧ L' = (r2, .cells (ints .u64 [5, 7]).toArray 22 (0, 0)) :: (r1, .cells (ints .u64 [10, 20, 40]).toArray 22 (0, 0)) :: L) := by
  refine xf_enter (args := []) Try.func23 rfl Try.ntmps23 rfl ?_
  focus
    refine xc_seq ?_
    refine xc_region ?_
    refine xo_ef rfl (ef_alloc fun r0 => ?_)
    refine xo_nil ?_
    refine xq_seq ?_
    refine xc_seq ?_
    refine xc_region ?_
    refine xo_ef rfl (ef_buildL (T := 23) (len := 3) (s := 1) (cells := (ints .u64 [10, 20, 40]).toArray) rfl (by decide) (by decide) (by kernel_rfl) fun r1 => ?_)
    refine xo_ef rfl (ef_buildL (T := 23) (len := 2) (s := 1) (cells := (ints .u64 [5, 7]).toArray) rfl (by decide) (by decide) (by kernel_rfl) fun r2 => ?_)
    refine xo_rd (rd_build rfl rfl rfl) rfl ?_
    refine xo_ef rfl (ef_storeB [_, _] _ rfl rfl (by first | rfl | assumption) rfl rfl rfl ?_)
    refine xo_nil ?_
    refine xq_seq ?_
    refine xc_ret ?_
  exact xq_retB (L' := (r2, .cells (ints .u64 [5, 7]).toArray 22 (0, 0)) :: (r1, .cells (ints .u64 [10, 20, 40]).toArray 22 (0, 0)) :: L) (.inl rfl) Try.results23 rfl Kn.o2 rfl (List.Sublist.cons_cons _ (List.Sublist.cons_cons _ (List.sublist_cons_self _ _))) ⟨r1, r2, rfl, rfl⟩
def rts : List Int := [52, 51, 22, 21, 14, 9]
def cps : List Int := [2, 1, 0, 0, 0, -1]
def ofs : List Int := [0, 0, 0, 1, 2, 2]
theorem xf_alloc2 {W : World} {L : List Blk} (rate : Int) (p q : Option Addr) (n c m d : Nat) (ct cm : List Int) (hn : ct.length = n) (hm : cm.length = m) (hr : Rs W L p (ints .u64 ct)) (hq : Rs W L q (ints .u64 cm)) (hU : ∀ x, x ∈ ct → U x) (hU2 : ∀ x, x ∈ cm → U x) (hb : n ≤ 1000) (hb2 : m ≤ 1000) (hR : Rgt ct cm) (z : Int × List Bool) (hz : pick ct cm rate (plansOf n m) = some z) :
    XF Try.prog W 11 #[.int .u64 rate, .agg #[.slice p n c, .slice q m d]] L (fun v L' => ∃ s k l, v = .tuple #[.agg #[.int .i64 z.1, .slice s z.2.length k], .int .i64 0] ∧ SlO 1 4 (.slice s z.2.length k) z.2.length (bls z.2) l ∧ L' = l ++ L) := by
  refine (xf_alloc rate p q n c m d ct cm hn hm hr hq hU hU2 hb hb2 hR z hz).mono ?_
  rintro v L' ⟨⟨cap, on, v, l⟩, rfl, hw, hpl, rfl⟩
  obtain ⟨s, k, h1, h2⟩ := hw.opn
  dsimp only at h1
  subst h1
  subst hpl
  exact ⟨s, k, l, rfl, h2, rfl⟩
theorem xf_alloc3 {W : World} {L : List Blk} (rate : Int) (p q : Option Addr) (n c m d : Nat) (ct cm : List Int) (hn : ct.length = n) (hm : cm.length = m) (hr : Rs W L p (ints .u64 ct)) (hq : Rs W L q (ints .u64 cm)) (hU : ∀ x, x ∈ ct → U x) (hU2 : ∀ x, x ∈ cm → U x) (hb : n ≤ 1000) (hb2 : m ≤ 1000) (hR : Rgt ct cm) (cap : Int) (b0 b1 : Bool) (hz : pick ct cm rate (plansOf n m) = some (cap, [b0, b1])) :
    XF Try.prog W 11 #[.int .u64 rate, .agg #[.slice p n c, .slice q m d]] L (fun v L' => ∃ b k rest, v = .tuple #[.agg #[.int .i64 cap, .slice (some ⟨b, 0, none⟩) 2 k], .int .i64 0] ∧ L' = (b, .cells (.bool b0 :: .bool b1 :: rest).toArray 4 (0, 0)) :: L) := by
  refine (xf_alloc2 rate p q n c m d ct cm hn hm hr hq hU hU2 hb hb2 hR _ hz).mono ?_
  rintro v L' ⟨s, k, l, rfl, hO, rfl⟩
  obtain ⟨b, rest, cap', h1, _, rfl⟩ := hO.cut (by simp)
  simp only [Value.slice.injEq] at h1
  obtain ⟨rfl, _, rfl⟩ := h1
  exact ⟨b, k, rest, rfl, rfl⟩
theorem pick_ex (i : Nat) (hi : i < 6) : ∃ cap b0 b1, pick [10, 20, 40] [5, 7] (rts.getD i 0) (plansOf 3 2) = some (cap, [b0, b1]) ∧ cps.getD i 0 = cap ∧ ofs.getD i 0 = offs [b0, b1] ∧ (i = 3 → b0 = true) := by
  have : i = 0 ∨ i = 1 ∨ i = 2 ∨ i = 3 ∨ i = 4 ∨ i = 5 := by omega
  rcases this with rfl | rfl | rfl | rfl | rfl | rfl <;> exact ⟨_, _, _, rfl, rfl, rfl, by decide⟩
theorem exU : (∀ x, x ∈ [(10 : Int), 20, 40] → U x) ∧ ∀ x, x ∈ [(5 : Int), 7] → U x := by
  constructor <;> (intro x hx; simp at hx; unfold U; omega)
theorem exR : Rgt [10, 20, 40] [5, 7] := by
  refine ⟨by decide, by decide, fun i h => ?_, fun h => by show (10 : Int) ≤ 1500; decide⟩
  have : i = 0 ∨ i = 1 := by simp at h; omega
  rcases this with rfl | rfl
  · show (10 : Int) ≤ 20; decide
  · show (20 : Int) ≤ 40; decide
theorem Rs.pre2 {W : World} {L : List Blk} {b : Nat} {b0 b1 : Bool} {rest : List Value} (h : (b, Obj.cells (.bool b0 :: .bool b1 :: rest).toArray 4 (0, 0)) ∈ L) : Rs W L (some ⟨b, 0, none⟩) (bls [b0, b1]) := fun j u hj => ⟨b, 0, rfl, Cl.own h (by
  have : j < 2 := by have := (List.getElem?_eq_some_iff.1 hj).1; simpa [bls] using this
  have h2 : j = 0 ∨ j = 1 := by omega
  rcases h2 with rfl | rfl <;> simpa [bls] using hj)⟩
set_option maxHeartbeats 8000000 in
theorem xf_works {W : World} : XF Try.prog W 8 #[] [] (fun v L' => v = .bool true) := by
  refine xf_enter (args := []) Try.func8 rfl Try.ntmps8 rfl ?_
  focus
    refine xc_seq ?_
    refine xc_region ?_
    refine xo_rd (rd_assign rfl) rfl ?_
    refine xo_nil ?_
    refine xq_seq ?_
    refine xc_seq ?_
    refine xc_region ?_
  refine xo_ef rfl (ef_buildL (T := 23) (s := 1) (cells := (ints .u64 rts).toArray) rfl (by decide) (by decide) (by kernel_rfl) fun r1 => ?_)
  focus
    refine xo_rd (rd_assign rfl) rfl ?_
    refine xo_nil ?_
    refine xq_seq ?_
    refine xc_seq ?_
    refine xc_region ?_
  refine xo_ef rfl (ef_buildL (T := 55) (s := 1) (cells := (ints .i64 cps).toArray) rfl (by decide) (by decide) (by kernel_rfl) fun r2 => ?_)
  focus
    refine xo_rd (rd_assign rfl) rfl ?_
    refine xo_nil ?_
    refine xq_seq ?_
    refine xc_seq ?_
    refine xc_region ?_
  refine xo_ef rfl (ef_buildL (T := 55) (s := 1) (cells := (ints .i64 ofs).toArray) rfl (by decide) (by decide) (by kernel_rfl) fun r3 => ?_)
  focus
    refine xo_rd (rd_assign rfl) rfl ?_
    refine xo_nil ?_
    refine xq_seq ?_
    refine xc_seq ?_
    refine xc_seq ?_
    refine xc_region ?_
    refine xo_rd (rd_assign rfl) rfl ?_
    refine xo_nil ?_
    refine xq_seq ?_
    refine xc_block ?_
  refine xc_loopI (ι := Nat) (fun i => i ≤ 6) (fun i => 6 - i) (fun _ => _) (fun i => [(0, .bool false), (1, .slice (some ⟨r1, 0, none⟩) 6 6), (2, .slice (some ⟨r2, 0, none⟩) 6 6), (3, .slice (some ⟨r3, 0, none⟩) 6 6), (4, .int .i64 i)]) 0 (by omega) rfl (by repeat (first | exact keep_nil | refine keep_cons rfl ?_)) ?_
  intro i hi
  focus
    refine xc_seq ?_
    refine xc_seq ?_
    refine xc_region ?_
    refine xo_rd (rd_move rfl) rfl ?_
    refine xo_rd (rd_lss rfl rfl) rfl ?_
    refine xo_nil ?_
    refine xq_seq ?_
    refine xc_dec rfl (fun hi1 => ?_) (fun hi1 => ?_)
    refine xc_skip ?_
    refine xq_seq ?_
    rotate_left
    refine xc_exit ?_
    refine xq_then_exit ?_
    refine xq_then_exit ?_
    refine xq_block_hit ?_
    refine xq_seq ?_
    refine xc_seq ?_
    refine xc_region ?_
    refine xo_rd (rd_assign rfl) rfl ?_
    refine xo_nil ?_
    refine xq_seq ?_
    refine xc_ret ?_
    exact xq_ret1 (.inl rfl) Try.results8 rfl (rfl)
  · obtain ⟨cap, b0, b1, hz, h1, h2, hq3⟩ := pick_ex i (by omega)
    have hr1 : (ints .u64 rts)[i]? = some (.int .u64 (rts.getD i 0)) := by
      have : i = 0 ∨ i = 1 ∨ i = 2 ∨ i = 3 ∨ i = 4 ∨ i = 5 := by omega
      rcases this with rfl | rfl | rfl | rfl | rfl | rfl <;> rfl
    have hr2 : (ints .i64 cps)[i]? = some (.int .i64 cap) := by
      rw [← h1]
      have : i = 0 ∨ i = 1 ∨ i = 2 ∨ i = 3 ∨ i = 4 ∨ i = 5 := by omega
      rcases this with rfl | rfl | rfl | rfl | rfl | rfl <;> rfl
    have hr3 : (ints .i64 ofs)[i]? = some (.int .i64 (offs [b0, b1])) := by
      rw [← h2]
      have : i = 0 ∨ i = 1 ∨ i = 2 ∨ i = 3 ∨ i = 4 ∨ i = 5 := by omega
      rcases this with rfl | rfl | rfl | rfl | rfl | rfl <;> rfl
    refine xc_seq (xc_block ?_)
    focus
      refine xc_seq ?_
      refine xc_drawML [0, 0, 3, 4, 0, 24, 32, 64, 64, 0, 767, 2047] [0, 0, 3, 4, 0, 24, 32, 64, 64, 0, 767, 2047] (by kernel_rfl) (by kernel_rfl) (by kernel_rfl) ?_
      refine xm_take 0 (m' := 1) rfl (by kernel_rfl) (by first | exact Sb.refl | exact Sb.nil | (repeat (first | exact Sb.nil | exact Sb.refl | exact Sb.app0 | apply Sb.keep | apply Sb.keepApp | apply Sb.cons | apply Sb.app))) (rd_move rfl) rfl (by kernel_rfl) ?_
      refine xm_take 1 (m' := 3) rfl (by kernel_rfl) (by first | exact Sb.refl | exact Sb.nil | (repeat (first | exact Sb.nil | exact Sb.refl | exact Sb.app0 | apply Sb.keep | apply Sb.keepApp | apply Sb.cons | apply Sb.app))) (rd_move rfl) rfl (by kernel_rfl) ?_
      refine xm_take 2 (m' := 7) rfl (by kernel_rfl) (by first | exact Sb.refl | exact Sb.nil | (repeat (first | exact Sb.nil | exact Sb.refl | exact Sb.app0 | apply Sb.keep | apply Sb.keepApp | apply Sb.cons | apply Sb.app))) (rd_indexAddr rfl rfl (by omega) (by omega)) rfl (by kernel_rfl) ?_
      refine xm_take 3 (m' := 15) rfl (by kernel_rfl) (by first | exact Sb.refl | exact Sb.nil | (repeat (first | exact Sb.nil | exact Sb.refl | exact Sb.app0 | apply Sb.keep | apply Sb.keepApp | apply Sb.cons | apply Sb.app))) (rd_load1 rfl (Cl.o2 (v := .int .u64 (rts.getD i 0)) (by simpa using hr1))) rfl (by kernel_rfl) ?_
      refine xm_two 4 9 (mi := 31) (mk := 527) rfl rfl (by kernel_rfl) rfl rfl (by kernel_rfl) (by kernel_rfl) (ef_call rfl (XF.mono (xf_example) ?_)) (ef_alloc fun r5 => ⟨(by first | exact Sb.refl | exact Sb.nil | (repeat (first | exact Sb.nil | exact Sb.refl | exact Sb.app0 | apply Sb.keep | apply Sb.keepApp | apply Sb.cons | apply Sb.app))), ?_⟩)
      rotate_left
      rotate_right
      rintro v L' ⟨ra, rb, rfl, rfl⟩
      refine ⟨(by first | exact Sb.refl | exact Sb.nil | (repeat (first | exact Sb.nil | exact Sb.refl | exact Sb.app0 | apply Sb.keep | apply Sb.keepApp | apply Sb.cons | apply Sb.app))), ?_⟩
      refine xm_two 5 9 (mi := 63) (mk := 543) rfl rfl (by kernel_rfl) rfl rfl (by kernel_rfl) (by kernel_rfl) (ef_call rfl (XF.mono (xf_alloc3 (rts.getD i 0) (some ⟨ra, 0, none⟩) (some ⟨rb, 0, none⟩) 3 3 2 2 [10, 20, 40] [5, 7] rfl rfl (Rs.fresh (T := 22) (fr := (0, 0)) (by simp)) (Rs.fresh (T := 22) (fr := (0, 0)) (by simp)) exU.1 exU.2 (by decide) (by decide) exR cap b0 b1 hz) ?_)) (ef_alloc fun r5 => ⟨(by first | exact Sb.refl | exact Sb.nil | (repeat (first | exact Sb.nil | exact Sb.refl | exact Sb.app0 | apply Sb.keep | apply Sb.keepApp | apply Sb.cons | apply Sb.app))), ?_⟩)
      rotate_left
      rotate_right
      rintro v L' ⟨b, k, rest, rfl, rfl⟩
      refine ⟨(by first | exact Sb.refl | exact Sb.nil | (repeat (first | exact Sb.nil | exact Sb.refl | exact Sb.app0 | apply Sb.keep | apply Sb.keepApp | apply Sb.cons | apply Sb.app))), ?_⟩
      refine xm_take 6 (m' := 127) rfl (by kernel_rfl) (by first | exact Sb.refl | exact Sb.nil | (repeat (first | exact Sb.nil | exact Sb.refl | exact Sb.app0 | apply Sb.keep | apply Sb.keepApp | apply Sb.cons | apply Sb.app))) (rd_move rfl) rfl (by kernel_rfl) ?_
      refine xm_take 7 (m' := 255) rfl (by kernel_rfl) (by first | exact Sb.refl | exact Sb.nil | (repeat (first | exact Sb.nil | exact Sb.refl | exact Sb.app0 | apply Sb.keep | apply Sb.keepApp | apply Sb.cons | apply Sb.app))) (rd_extract rfl rfl) rfl (by kernel_rfl) ?_
      refine xm_take 8 (m' := 511) rfl (by kernel_rfl) (by first | exact Sb.refl | exact Sb.nil | (repeat (first | exact Sb.nil | exact Sb.refl | exact Sb.app0 | apply Sb.keep | apply Sb.keepApp | apply Sb.cons | apply Sb.app))) (rd_extract rfl rfl) rfl (by kernel_rfl) ?_
      refine xm_one 9 (m' := 1023) rfl (by kernel_rfl) rfl (by kernel_rfl) (ef_alloc fun r5 => ?_)
      refine ⟨(by first | exact Sb.refl | exact Sb.nil | (repeat (first | exact Sb.nil | exact Sb.refl | exact Sb.app0 | apply Sb.keep | apply Sb.keepApp | apply Sb.cons | apply Sb.app))), ?_⟩
      refine xm_one 10 (m' := 2047) rfl (by kernel_rfl) rfl (by kernel_rfl) (ef_storeB [] _ rfl rfl (by first | rfl | assumption) rfl rfl rfl ?_)
      refine ⟨(by first | exact Sb.refl | exact Sb.nil | (repeat (first | exact Sb.nil | exact Sb.refl | exact Sb.app0 | apply Sb.keep | apply Sb.keepApp | apply Sb.cons | apply Sb.app))), ?_⟩
      refine xm_take 11 (m' := 4095) rfl (by kernel_rfl) (by first | exact Sb.refl | exact Sb.nil | (repeat (first | exact Sb.nil | exact Sb.refl | exact Sb.app0 | apply Sb.keep | apply Sb.keepApp | apply Sb.cons | apply Sb.app))) (rd_assign rfl) rfl (by kernel_rfl) ?_
      refine xm_done (by kernel_rfl) ?_
      refine xq_seq ?_
      refine xc_seq ?_
      refine xc_drawML [0, 1, 2, 4, 12, 4, 4, 100, 132, 276, 516, 1028, 2048, 6144, 2048, 2048, 51200, 67584, 141312, 264192, 532480, 1048576, 3145728, 5242880, 8388608, 25165824, 41943040, 75497472, 142606336, 268435456, 805306368, 1342177280, 2415919104, 4563402752, 8866758656, 17189306368, 34360786944] [0, 1, 2, 4, 12, 4, 4, 100, 132, 276, 516, 1028, 2048, 6144, 2048, 2048, 51200, 67584, 141312, 264192, 532480, 1048576, 3145728, 5242880, 8388608, 25165824, 41943040, 75497472, 142606336, 268435456, 805306368, 1342177280, 2415919104, 4563402752, 8866758656, 17189306368, 34360786944] (by kernel_rfl) (by kernel_rfl) (by kernel_rfl) ?_
      refine xm_take 0 (m' := 1) rfl (by kernel_rfl) (by first | exact Sb.refl | exact Sb.nil | (repeat (first | exact Sb.nil | exact Sb.refl | exact Sb.app0 | apply Sb.keep | apply Sb.keepApp | apply Sb.cons | apply Sb.app))) (rd_move rfl) rfl (by kernel_rfl) ?_
      refine xm_take 1 (m' := 3) rfl (by kernel_rfl) (by first | exact Sb.refl | exact Sb.nil | (repeat (first | exact Sb.nil | exact Sb.refl | exact Sb.app0 | apply Sb.keep | apply Sb.keepApp | apply Sb.cons | apply Sb.app))) (rd_neq rfl rfl) rfl (by kernel_rfl) ?_
      refine xm_take 2 (m' := 7) rfl (by kernel_rfl) (by first | exact Sb.refl | exact Sb.nil | (repeat (first | exact Sb.nil | exact Sb.refl | exact Sb.app0 | apply Sb.keep | apply Sb.keepApp | apply Sb.cons | apply Sb.app))) (rd_move rfl) rfl (by kernel_rfl) ?_
      refine xm_gtake 3 (m' := 15) rfl (by kernel_rfl) (by first | exact Sb.refl | exact Sb.nil | (repeat (first | exact Sb.nil | exact Sb.refl | exact Sb.app0 | apply Sb.keep | apply Sb.keepApp | apply Sb.cons | apply Sb.app))) rfl rfl (rd_fieldAddr rfl) rfl (by kernel_rfl) ?_
      refine xm_gtake 4 (m' := 31) rfl (by kernel_rfl) (by first | exact Sb.refl | exact Sb.nil | (repeat (first | exact Sb.nil | exact Sb.refl | exact Sb.app0 | apply Sb.keep | apply Sb.keepApp | apply Sb.cons | apply Sb.app))) rfl rfl (rd_load1 rfl (Cl.o0 rfl)) rfl (by kernel_rfl) ?_
      refine xm_gtake 5 (m' := 63) rfl (by kernel_rfl) (by first | exact Sb.refl | exact Sb.nil | (repeat (first | exact Sb.nil | exact Sb.refl | exact Sb.app0 | apply Sb.keep | apply Sb.keepApp | apply Sb.cons | apply Sb.app))) rfl rfl (rd_move rfl) rfl (by kernel_rfl) ?_
      refine xm_gtake 6 (m' := 127) rfl (by kernel_rfl) (by first | exact Sb.refl | exact Sb.nil | (repeat (first | exact Sb.nil | exact Sb.refl | exact Sb.app0 | apply Sb.keep | apply Sb.keepApp | apply Sb.cons | apply Sb.app))) rfl rfl (rd_move rfl) rfl (by kernel_rfl) ?_
      refine xm_gtake 7 (m' := 255) rfl (by kernel_rfl) (by first | exact Sb.refl | exact Sb.nil | (repeat (first | exact Sb.nil | exact Sb.refl | exact Sb.app0 | apply Sb.keep | apply Sb.keepApp | apply Sb.cons | apply Sb.app))) rfl rfl (rd_indexAddr rfl rfl (by omega) (by omega)) rfl (by kernel_rfl) ?_
      refine xm_gtake 8 (m' := 511) rfl (by kernel_rfl) (by first | exact Sb.refl | exact Sb.nil | (repeat (first | exact Sb.nil | exact Sb.refl | exact Sb.app0 | apply Sb.keep | apply Sb.keepApp | apply Sb.cons | apply Sb.app))) rfl rfl (rd_load1 rfl (Cl.own (b := r2) (v := .int .i64 cap) (cs := (ints .i64 cps).toArray) (T := 3) (fr := (0, 0)) (by simp) (by simpa using hr2))) rfl (by kernel_rfl) ?_
      refine xm_gtake 9 (m' := 1023) rfl (by kernel_rfl) (by first | exact Sb.refl | exact Sb.nil | (repeat (first | exact Sb.nil | exact Sb.refl | exact Sb.app0 | apply Sb.keep | apply Sb.keepApp | apply Sb.cons | apply Sb.app))) rfl rfl (rd_neq rfl rfl) rfl (by kernel_rfl) ?_
      refine xm_take 10 (m' := 2047) rfl (by kernel_rfl) (by first | exact Sb.refl | exact Sb.nil | (repeat (first | exact Sb.nil | exact Sb.refl | exact Sb.app0 | apply Sb.keep | apply Sb.keepApp | apply Sb.cons | apply Sb.app))) (rd_pickf rfl rfl) rfl (by kernel_rfl) ?_
      refine xm_take 11 (m' := 4095) rfl (by kernel_rfl) (by first | exact Sb.refl | exact Sb.nil | (repeat (first | exact Sb.nil | exact Sb.refl | exact Sb.app0 | apply Sb.keep | apply Sb.keepApp | apply Sb.cons | apply Sb.app))) (rd_move rfl) rfl (by kernel_rfl) ?_
      refine xm_ndec 34 rfl (fun h => absurd rfl h) (fun _ => ?_)
      refine xm_gtake 12 (m' := 8191) rfl (by kernel_rfl) (by first | exact Sb.refl | exact Sb.nil | (repeat (first | exact Sb.nil | exact Sb.refl | exact Sb.app0 | apply Sb.keep | apply Sb.keepApp | apply Sb.cons | apply Sb.app))) rfl rfl (rd_loadB rfl Kn.o0 (by rfl)) rfl (by kernel_rfl) ?_
      refine xm_gtake 14 (m' := 24575) rfl (by kernel_rfl) (by first | exact Sb.refl | exact Sb.nil | (repeat (first | exact Sb.nil | exact Sb.refl | exact Sb.app0 | apply Sb.keep | apply Sb.keepApp | apply Sb.cons | apply Sb.app))) rfl rfl (rd_move rfl) rfl (by kernel_rfl) ?_
      refine xm_gtake 15 (m' := 57343) rfl (by kernel_rfl) (by first | exact Sb.refl | exact Sb.nil | (repeat (first | exact Sb.nil | exact Sb.refl | exact Sb.app0 | apply Sb.keep | apply Sb.keepApp | apply Sb.cons | apply Sb.app))) rfl rfl (rd_move rfl) rfl (by kernel_rfl) ?_
      refine xm_gtake 16 (m' := 122879) rfl (by kernel_rfl) (by first | exact Sb.refl | exact Sb.nil | (repeat (first | exact Sb.nil | exact Sb.refl | exact Sb.app0 | apply Sb.keep | apply Sb.keepApp | apply Sb.cons | apply Sb.app))) rfl rfl (rd_indexAddr rfl rfl (by omega) (by omega)) rfl (by kernel_rfl) ?_
      refine xm_gtake 17 (m' := 253951) rfl (by kernel_rfl) (by first | exact Sb.refl | exact Sb.nil | (repeat (first | exact Sb.nil | exact Sb.refl | exact Sb.app0 | apply Sb.keep | apply Sb.keepApp | apply Sb.cons | apply Sb.app))) rfl rfl (rd_load1 rfl (Cl.own (b := r3) (v := .int .i64 (offs [b0, b1])) (cs := (ints .i64 ofs).toArray) (T := 3) (fr := (0, 0)) (by simp) (by simpa using hr3))) rfl (by kernel_rfl) ?_
      refine xm_gone 13 (m' := 262143) rfl (by kernel_rfl) rfl rfl rfl (by kernel_rfl) (ef_call rfl (XF.mono (xf_demoted cap (some ⟨b, 0, none⟩) 2 k [b0, b1] rfl (Rs.pre2 (rest := rest) (by simp)) (by decide)) ?_))
      rintro v L' ⟨rfl, rfl⟩
      refine ⟨(by first | exact Sb.refl | exact Sb.nil | (repeat (first | exact Sb.nil | exact Sb.refl | exact Sb.app0 | apply Sb.keep | apply Sb.keepApp | apply Sb.cons | apply Sb.app))), ?_⟩
      refine xm_gtake 18 (m' := 524287) rfl (by kernel_rfl) (by first | exact Sb.refl | exact Sb.nil | (repeat (first | exact Sb.nil | exact Sb.refl | exact Sb.app0 | apply Sb.keep | apply Sb.keepApp | apply Sb.cons | apply Sb.app))) rfl rfl (rd_neq rfl rfl) rfl (by kernel_rfl) ?_
      refine xm_take 19 (m' := 1048575) rfl (by kernel_rfl) (by first | exact Sb.refl | exact Sb.nil | (repeat (first | exact Sb.nil | exact Sb.refl | exact Sb.app0 | apply Sb.keep | apply Sb.keepApp | apply Sb.cons | apply Sb.app))) (rd_pickf rfl rfl) rfl (by kernel_rfl) ?_
      refine xm_take 20 (m' := 2097151) rfl (by kernel_rfl) (by first | exact Sb.refl | exact Sb.nil | (repeat (first | exact Sb.nil | exact Sb.refl | exact Sb.app0 | apply Sb.keep | apply Sb.keepApp | apply Sb.cons | apply Sb.app))) (rd_move rfl) rfl (by kernel_rfl) ?_
      refine xm_ndec 43 rfl (fun h => absurd rfl h) (fun _ => ?_)
      refine xm_gtake 21 (m' := 4194303) rfl (by kernel_rfl) (by first | exact Sb.refl | exact Sb.nil | (repeat (first | exact Sb.nil | exact Sb.refl | exact Sb.app0 | apply Sb.keep | apply Sb.keepApp | apply Sb.cons | apply Sb.app))) rfl rfl (rd_move rfl) rfl (by kernel_rfl) ?_
      refine xm_gtake 22 (m' := 8388607) rfl (by kernel_rfl) (by first | exact Sb.refl | exact Sb.nil | (repeat (first | exact Sb.nil | exact Sb.refl | exact Sb.app0 | apply Sb.keep | apply Sb.keepApp | apply Sb.cons | apply Sb.app))) rfl rfl (rd_eql rfl rfl) rfl (by kernel_rfl) ?_
      refine xm_gtake 23 (m' := 16777215) rfl (by kernel_rfl) (by first | exact Sb.refl | exact Sb.nil | (repeat (first | exact Sb.nil | exact Sb.refl | exact Sb.app0 | apply Sb.keep | apply Sb.keepApp | apply Sb.cons | apply Sb.app))) rfl rfl (rd_move rfl) rfl (by kernel_rfl) ?_
      refine xm_dec 46 rfl (fun h3 => ?_) (fun h3 => ?_)
      refine xm_gtake 24 (m' := 33554431) rfl (by kernel_rfl) (by first | exact Sb.refl | exact Sb.nil | (repeat (first | exact Sb.nil | exact Sb.refl | exact Sb.app0 | apply Sb.keep | apply Sb.keepApp | apply Sb.cons | apply Sb.app))) rfl rfl (rd_fieldAddr rfl) rfl (by kernel_rfl) ?_
      refine xm_gtake 25 (m' := 67108863) rfl (by kernel_rfl) (by first | exact Sb.refl | exact Sb.nil | (repeat (first | exact Sb.nil | exact Sb.refl | exact Sb.app0 | apply Sb.keep | apply Sb.keepApp | apply Sb.cons | apply Sb.app))) rfl rfl (rd_load1 rfl (Cl.o0 rfl)) rfl (by kernel_rfl) ?_
      refine xm_gtake 26 (m' := 134217727) rfl (by kernel_rfl) (by first | exact Sb.refl | exact Sb.nil | (repeat (first | exact Sb.nil | exact Sb.refl | exact Sb.app0 | apply Sb.keep | apply Sb.keepApp | apply Sb.cons | apply Sb.app))) rfl rfl (rd_len rfl) rfl (by kernel_rfl) ?_
      refine xm_gtake 27 (m' := 268435455) rfl (by kernel_rfl) (by first | exact Sb.refl | exact Sb.nil | (repeat (first | exact Sb.nil | exact Sb.refl | exact Sb.app0 | apply Sb.keep | apply Sb.keepApp | apply Sb.cons | apply Sb.app))) rfl rfl (rd_neq rfl rfl) rfl (by kernel_rfl) ?_
      refine xm_gtake 28 (m' := 536870911) rfl (by kernel_rfl) (by first | exact Sb.refl | exact Sb.nil | (repeat (first | exact Sb.nil | exact Sb.refl | exact Sb.app0 | apply Sb.keep | apply Sb.keepApp | apply Sb.cons | apply Sb.app))) rfl rfl (rd_move rfl) rfl (by kernel_rfl) ?_
      refine xm_gtake 29 (m' := 1073741823) rfl (by kernel_rfl) (by first | exact Sb.refl | exact Sb.nil | (repeat (first | exact Sb.nil | exact Sb.refl | exact Sb.app0 | apply Sb.keep | apply Sb.keepApp | apply Sb.cons | apply Sb.app))) rfl rfl (rd_fieldAddr rfl) rfl (by kernel_rfl) ?_
      refine xm_gtake 30 (m' := 2147483647) rfl (by kernel_rfl) (by first | exact Sb.refl | exact Sb.nil | (repeat (first | exact Sb.nil | exact Sb.refl | exact Sb.app0 | apply Sb.keep | apply Sb.keepApp | apply Sb.cons | apply Sb.app))) rfl rfl (rd_load1 rfl (Cl.o0 rfl)) rfl (by kernel_rfl) ?_
      refine xm_gtake 31 (m' := 4294967295) rfl (by kernel_rfl) (by first | exact Sb.refl | exact Sb.nil | (repeat (first | exact Sb.nil | exact Sb.refl | exact Sb.app0 | apply Sb.keep | apply Sb.keepApp | apply Sb.cons | apply Sb.app))) rfl rfl (rd_indexAddr rfl rfl (by omega) (by omega)) rfl (by kernel_rfl) ?_
      refine xm_gtake 32 (m' := 8589934591) rfl (by kernel_rfl) (by first | exact Sb.refl | exact Sb.nil | (repeat (first | exact Sb.nil | exact Sb.refl | exact Sb.app0 | apply Sb.keep | apply Sb.keepApp | apply Sb.cons | apply Sb.app))) rfl rfl (rd_load1 rfl (Cl.o1 rfl)) rfl (by kernel_rfl) ?_
      refine xm_gtake 33 (m' := 17179869183) rfl (by kernel_rfl) (by first | exact Sb.refl | exact Sb.nil | (repeat (first | exact Sb.nil | exact Sb.refl | exact Sb.app0 | apply Sb.keep | apply Sb.keepApp | apply Sb.cons | apply Sb.app))) rfl rfl (rd_not rfl) rfl (by kernel_rfl) ?_
      refine xm_gtake 34 (m' := 34359738367) rfl (by kernel_rfl) (by first | exact Sb.refl | exact Sb.nil | (repeat (first | exact Sb.nil | exact Sb.refl | exact Sb.app0 | apply Sb.keep | apply Sb.keepApp | apply Sb.cons | apply Sb.app))) rfl rfl (rd_pickf rfl rfl) rfl (by kernel_rfl) ?_
      refine xm_gtake 35 (m' := 68719476735) rfl (by kernel_rfl) (by first | exact Sb.refl | exact Sb.nil | (repeat (first | exact Sb.nil | exact Sb.refl | exact Sb.app0 | apply Sb.keep | apply Sb.keepApp | apply Sb.cons | apply Sb.app))) rfl rfl (rd_pickt rfl rfl) rfl (by kernel_rfl) ?_
      refine xm_take 36 (m' := 137438953471) rfl (by kernel_rfl) (by first | exact Sb.refl | exact Sb.nil | (repeat (first | exact Sb.nil | exact Sb.refl | exact Sb.app0 | apply Sb.keep | apply Sb.keepApp | apply Sb.cons | apply Sb.app))) (rd_pickf rfl rfl) rfl (by kernel_rfl) ?_
      refine xm_done (by kernel_rfl) ?_
      refine xq_seq ?_
      refine xc_cond rfl (fun h4 => ?_) (fun h4 => ?_)
      refine xc_seq ?_
      refine xc_region ?_
      refine xo_rd (rd_assign rfl) rfl ?_
      refine xo_nil ?_
      refine xq_seq ?_
      refine xc_ret ?_
      refine xq_block_ret ?_
      refine xq_then_ret ?_
      refine xq_then_ret ?_
      refine xq_block_ret ?_
      refine xq_then_ret ?_
      rotate_left
      refine xc_skip ?_
      refine xq_block ?_
      refine xq_seq ?_
      refine xc_region ?_
      refine xo_rd (rd_move rfl) rfl ?_
      refine xo_rd (rd_addn rfl rfl (by omega) (by omega)) rfl ?_
      refine xo_rd (rd_assign rfl) rfl ?_
      refine xo_nil ?_
      rotate_left
      refine xm_gskip 24 (m' := 33554431) rfl (by kernel_rfl) (by first | exact Sb.refl | exact Sb.nil | (repeat (first | exact Sb.nil | exact Sb.refl | exact Sb.app0 | apply Sb.keep | apply Sb.keepApp | apply Sb.cons | apply Sb.app))) rfl rfl rfl rfl (by kernel_rfl) ?_
      refine xm_gskip 25 (m' := 67108863) rfl (by kernel_rfl) (by first | exact Sb.refl | exact Sb.nil | (repeat (first | exact Sb.nil | exact Sb.refl | exact Sb.app0 | apply Sb.keep | apply Sb.keepApp | apply Sb.cons | apply Sb.app))) rfl rfl rfl rfl (by kernel_rfl) ?_
      refine xm_gskip 26 (m' := 134217727) rfl (by kernel_rfl) (by first | exact Sb.refl | exact Sb.nil | (repeat (first | exact Sb.nil | exact Sb.refl | exact Sb.app0 | apply Sb.keep | apply Sb.keepApp | apply Sb.cons | apply Sb.app))) rfl rfl rfl rfl (by kernel_rfl) ?_
      refine xm_gskip 27 (m' := 268435455) rfl (by kernel_rfl) (by first | exact Sb.refl | exact Sb.nil | (repeat (first | exact Sb.nil | exact Sb.refl | exact Sb.app0 | apply Sb.keep | apply Sb.keepApp | apply Sb.cons | apply Sb.app))) rfl rfl rfl rfl (by kernel_rfl) ?_
      refine xm_gskip 28 (m' := 536870911) rfl (by kernel_rfl) (by first | exact Sb.refl | exact Sb.nil | (repeat (first | exact Sb.nil | exact Sb.refl | exact Sb.app0 | apply Sb.keep | apply Sb.keepApp | apply Sb.cons | apply Sb.app))) rfl rfl rfl rfl (by kernel_rfl) ?_
      refine xm_gskipU 29 (m' := 1073741823) rfl (by kernel_rfl) (by first | exact Sb.refl | exact Sb.nil | (repeat (first | exact Sb.nil | exact Sb.refl | exact Sb.app0 | apply Sb.keep | apply Sb.keepApp | apply Sb.cons | apply Sb.app))) rfl rfl rfl (by kernel_rfl) ?_
      refine xm_gskipU 30 (m' := 2147483647) rfl (by kernel_rfl) (by first | exact Sb.refl | exact Sb.nil | (repeat (first | exact Sb.nil | exact Sb.refl | exact Sb.app0 | apply Sb.keep | apply Sb.keepApp | apply Sb.cons | apply Sb.app))) rfl rfl rfl (by kernel_rfl) ?_
      refine xm_gskipU 31 (m' := 4294967295) rfl (by kernel_rfl) (by first | exact Sb.refl | exact Sb.nil | (repeat (first | exact Sb.nil | exact Sb.refl | exact Sb.app0 | apply Sb.keep | apply Sb.keepApp | apply Sb.cons | apply Sb.app))) rfl rfl rfl (by kernel_rfl) ?_
      refine xm_gskipU 32 (m' := 8589934591) rfl (by kernel_rfl) (by first | exact Sb.refl | exact Sb.nil | (repeat (first | exact Sb.nil | exact Sb.refl | exact Sb.app0 | apply Sb.keep | apply Sb.keepApp | apply Sb.cons | apply Sb.app))) rfl rfl rfl (by kernel_rfl) ?_
      refine xm_gskipU 33 (m' := 17179869183) rfl (by kernel_rfl) (by first | exact Sb.refl | exact Sb.nil | (repeat (first | exact Sb.nil | exact Sb.refl | exact Sb.app0 | apply Sb.keep | apply Sb.keepApp | apply Sb.cons | apply Sb.app))) rfl rfl rfl (by kernel_rfl) ?_
      refine xm_gskip 34 (m' := 34359738367) rfl (by kernel_rfl) (by first | exact Sb.refl | exact Sb.nil | (repeat (first | exact Sb.nil | exact Sb.refl | exact Sb.app0 | apply Sb.keep | apply Sb.keepApp | apply Sb.cons | apply Sb.app))) rfl rfl rfl rfl (by kernel_rfl) ?_
      refine xm_gtake 35 (m' := 68719476735) rfl (by kernel_rfl) (by first | exact Sb.refl | exact Sb.nil | (repeat (first | exact Sb.nil | exact Sb.refl | exact Sb.app0 | apply Sb.keep | apply Sb.keepApp | apply Sb.cons | apply Sb.app))) rfl rfl (rd_pickf rfl rfl) rfl (by kernel_rfl) ?_
      refine xm_take 36 (m' := 137438953471) rfl (by kernel_rfl) (by first | exact Sb.refl | exact Sb.nil | (repeat (first | exact Sb.nil | exact Sb.refl | exact Sb.app0 | apply Sb.keep | apply Sb.keepApp | apply Sb.cons | apply Sb.app))) (rd_pickf rfl rfl) rfl (by kernel_rfl) ?_
      refine xm_done (by kernel_rfl) ?_
      refine xq_seq ?_
      refine xc_condf rfl ?_
      refine xc_skip ?_
      refine xq_block ?_
      refine xq_seq ?_
      refine xc_region ?_
      refine xo_rd (rd_move rfl) rfl ?_
      refine xo_rd (rd_addn rfl rfl (by omega) (by omega)) rfl ?_
      refine xo_rd (rd_assign rfl) rfl ?_
      refine xo_nil ?_
      rotate_left
      refine xm_one 5 (m' := 575) rfl (by kernel_rfl) rfl (by kernel_rfl) (ef_call rfl (XF.mono (xf_alloc3 (rts.getD i 0) (some ⟨ra, 0, none⟩) (some ⟨rb, 0, none⟩) 3 3 2 2 [10, 20, 40] [5, 7] rfl rfl (Rs.fresh (T := 22) (fr := (0, 0)) (by simp)) (Rs.fresh (T := 22) (fr := (0, 0)) (by simp)) exU.1 exU.2 (by decide) (by decide) exR cap b0 b1 hz) ?_))
      rintro v L' ⟨b, k, rest, rfl, rfl⟩
      refine ⟨(by first | exact Sb.refl | exact Sb.nil | (repeat (first | exact Sb.nil | exact Sb.refl | exact Sb.app0 | apply Sb.keep | apply Sb.keepApp | apply Sb.cons | apply Sb.app))), ?_⟩
      refine xm_take 6 (m' := 639) rfl (by kernel_rfl) (by first | exact Sb.refl | exact Sb.nil | (repeat (first | exact Sb.nil | exact Sb.refl | exact Sb.app0 | apply Sb.keep | apply Sb.keepApp | apply Sb.cons | apply Sb.app))) (rd_move rfl) rfl (by kernel_rfl) ?_
      refine xm_take 7 (m' := 767) rfl (by kernel_rfl) (by first | exact Sb.refl | exact Sb.nil | (repeat (first | exact Sb.nil | exact Sb.refl | exact Sb.app0 | apply Sb.keep | apply Sb.keepApp | apply Sb.cons | apply Sb.app))) (rd_extract rfl rfl) rfl (by kernel_rfl) ?_
      refine xm_take 8 (m' := 1023) rfl (by kernel_rfl) (by first | exact Sb.refl | exact Sb.nil | (repeat (first | exact Sb.nil | exact Sb.refl | exact Sb.app0 | apply Sb.keep | apply Sb.keepApp | apply Sb.cons | apply Sb.app))) (rd_extract rfl rfl) rfl (by kernel_rfl) ?_
      refine xm_one 10 (m' := 2047) rfl (by kernel_rfl) rfl (by kernel_rfl) (ef_storeB [_] _ rfl rfl (by first | rfl | assumption) rfl rfl rfl ?_)
      refine ⟨(by first | exact Sb.refl | exact Sb.nil | (repeat (first | exact Sb.nil | exact Sb.refl | exact Sb.app0 | apply Sb.keep | apply Sb.keepApp | apply Sb.cons | apply Sb.app))), ?_⟩
      refine xm_take 11 (m' := 4095) rfl (by kernel_rfl) (by first | exact Sb.refl | exact Sb.nil | (repeat (first | exact Sb.nil | exact Sb.refl | exact Sb.app0 | apply Sb.keep | apply Sb.keepApp | apply Sb.cons | apply Sb.app))) (rd_assign rfl) rfl (by kernel_rfl) ?_
      refine xm_done (by kernel_rfl) ?_
      refine xq_seq ?_
      refine xc_seq ?_
      refine xc_drawML [0, 1, 2, 4, 12, 4, 4, 100, 132, 276, 516, 1028, 2048, 6144, 2048, 2048, 51200, 67584, 141312, 264192, 532480, 1048576, 3145728, 5242880, 8388608, 25165824, 41943040, 75497472, 142606336, 268435456, 805306368, 1342177280, 2415919104, 4563402752, 8866758656, 17189306368, 34360786944] [0, 1, 2, 4, 12, 4, 4, 100, 132, 276, 516, 1028, 2048, 6144, 2048, 2048, 51200, 67584, 141312, 264192, 532480, 1048576, 3145728, 5242880, 8388608, 25165824, 41943040, 75497472, 142606336, 268435456, 805306368, 1342177280, 2415919104, 4563402752, 8866758656, 17189306368, 34360786944] (by kernel_rfl) (by kernel_rfl) (by kernel_rfl) ?_
      refine xm_take 0 (m' := 1) rfl (by kernel_rfl) (by first | exact Sb.refl | exact Sb.nil | (repeat (first | exact Sb.nil | exact Sb.refl | exact Sb.app0 | apply Sb.keep | apply Sb.keepApp | apply Sb.cons | apply Sb.app))) (rd_move rfl) rfl (by kernel_rfl) ?_
      refine xm_take 1 (m' := 3) rfl (by kernel_rfl) (by first | exact Sb.refl | exact Sb.nil | (repeat (first | exact Sb.nil | exact Sb.refl | exact Sb.app0 | apply Sb.keep | apply Sb.keepApp | apply Sb.cons | apply Sb.app))) (rd_neq rfl rfl) rfl (by kernel_rfl) ?_
      refine xm_take 2 (m' := 7) rfl (by kernel_rfl) (by first | exact Sb.refl | exact Sb.nil | (repeat (first | exact Sb.nil | exact Sb.refl | exact Sb.app0 | apply Sb.keep | apply Sb.keepApp | apply Sb.cons | apply Sb.app))) (rd_move rfl) rfl (by kernel_rfl) ?_
      refine xm_gtake 3 (m' := 15) rfl (by kernel_rfl) (by first | exact Sb.refl | exact Sb.nil | (repeat (first | exact Sb.nil | exact Sb.refl | exact Sb.app0 | apply Sb.keep | apply Sb.keepApp | apply Sb.cons | apply Sb.app))) rfl rfl (rd_fieldAddr rfl) rfl (by kernel_rfl) ?_
      refine xm_gtake 4 (m' := 31) rfl (by kernel_rfl) (by first | exact Sb.refl | exact Sb.nil | (repeat (first | exact Sb.nil | exact Sb.refl | exact Sb.app0 | apply Sb.keep | apply Sb.keepApp | apply Sb.cons | apply Sb.app))) rfl rfl (rd_load1 rfl (Cl.o1 rfl)) rfl (by kernel_rfl) ?_
      refine xm_gtake 5 (m' := 63) rfl (by kernel_rfl) (by first | exact Sb.refl | exact Sb.nil | (repeat (first | exact Sb.nil | exact Sb.refl | exact Sb.app0 | apply Sb.keep | apply Sb.keepApp | apply Sb.cons | apply Sb.app))) rfl rfl (rd_move rfl) rfl (by kernel_rfl) ?_
      refine xm_gtake 6 (m' := 127) rfl (by kernel_rfl) (by first | exact Sb.refl | exact Sb.nil | (repeat (first | exact Sb.nil | exact Sb.refl | exact Sb.app0 | apply Sb.keep | apply Sb.keepApp | apply Sb.cons | apply Sb.app))) rfl rfl (rd_move rfl) rfl (by kernel_rfl) ?_
      refine xm_gtake 7 (m' := 255) rfl (by kernel_rfl) (by first | exact Sb.refl | exact Sb.nil | (repeat (first | exact Sb.nil | exact Sb.refl | exact Sb.app0 | apply Sb.keep | apply Sb.keepApp | apply Sb.cons | apply Sb.app))) rfl rfl (rd_indexAddr rfl rfl (by omega) (by omega)) rfl (by kernel_rfl) ?_
      refine xm_gtake 8 (m' := 511) rfl (by kernel_rfl) (by first | exact Sb.refl | exact Sb.nil | (repeat (first | exact Sb.nil | exact Sb.refl | exact Sb.app0 | apply Sb.keep | apply Sb.keepApp | apply Sb.cons | apply Sb.app))) rfl rfl (rd_load1 rfl (Cl.own (b := r2) (v := .int .i64 cap) (cs := (ints .i64 cps).toArray) (T := 3) (fr := (0, 0)) (by simp) (by simpa using hr2))) rfl (by kernel_rfl) ?_
      refine xm_gtake 9 (m' := 1023) rfl (by kernel_rfl) (by first | exact Sb.refl | exact Sb.nil | (repeat (first | exact Sb.nil | exact Sb.refl | exact Sb.app0 | apply Sb.keep | apply Sb.keepApp | apply Sb.cons | apply Sb.app))) rfl rfl (rd_neq rfl rfl) rfl (by kernel_rfl) ?_
      refine xm_take 10 (m' := 2047) rfl (by kernel_rfl) (by first | exact Sb.refl | exact Sb.nil | (repeat (first | exact Sb.nil | exact Sb.refl | exact Sb.app0 | apply Sb.keep | apply Sb.keepApp | apply Sb.cons | apply Sb.app))) (rd_pickf rfl rfl) rfl (by kernel_rfl) ?_
      refine xm_take 11 (m' := 4095) rfl (by kernel_rfl) (by first | exact Sb.refl | exact Sb.nil | (repeat (first | exact Sb.nil | exact Sb.refl | exact Sb.app0 | apply Sb.keep | apply Sb.keepApp | apply Sb.cons | apply Sb.app))) (rd_move rfl) rfl (by kernel_rfl) ?_
      refine xm_ndec 34 rfl (fun h => absurd rfl h) (fun _ => ?_)
      refine xm_gtake 12 (m' := 8191) rfl (by kernel_rfl) (by first | exact Sb.refl | exact Sb.nil | (repeat (first | exact Sb.nil | exact Sb.refl | exact Sb.app0 | apply Sb.keep | apply Sb.keepApp | apply Sb.cons | apply Sb.app))) rfl rfl (rd_loadB rfl Kn.o1 (by rfl)) rfl (by kernel_rfl) ?_
      refine xm_gtake 14 (m' := 24575) rfl (by kernel_rfl) (by first | exact Sb.refl | exact Sb.nil | (repeat (first | exact Sb.nil | exact Sb.refl | exact Sb.app0 | apply Sb.keep | apply Sb.keepApp | apply Sb.cons | apply Sb.app))) rfl rfl (rd_move rfl) rfl (by kernel_rfl) ?_
      refine xm_gtake 15 (m' := 57343) rfl (by kernel_rfl) (by first | exact Sb.refl | exact Sb.nil | (repeat (first | exact Sb.nil | exact Sb.refl | exact Sb.app0 | apply Sb.keep | apply Sb.keepApp | apply Sb.cons | apply Sb.app))) rfl rfl (rd_move rfl) rfl (by kernel_rfl) ?_
      refine xm_gtake 16 (m' := 122879) rfl (by kernel_rfl) (by first | exact Sb.refl | exact Sb.nil | (repeat (first | exact Sb.nil | exact Sb.refl | exact Sb.app0 | apply Sb.keep | apply Sb.keepApp | apply Sb.cons | apply Sb.app))) rfl rfl (rd_indexAddr rfl rfl (by omega) (by omega)) rfl (by kernel_rfl) ?_
      refine xm_gtake 17 (m' := 253951) rfl (by kernel_rfl) (by first | exact Sb.refl | exact Sb.nil | (repeat (first | exact Sb.nil | exact Sb.refl | exact Sb.app0 | apply Sb.keep | apply Sb.keepApp | apply Sb.cons | apply Sb.app))) rfl rfl (rd_load1 rfl (Cl.own (b := r3) (v := .int .i64 (offs [b0, b1])) (cs := (ints .i64 ofs).toArray) (T := 3) (fr := (0, 0)) (by simp) (by simpa using hr3))) rfl (by kernel_rfl) ?_
      refine xm_gone 13 (m' := 262143) rfl (by kernel_rfl) rfl rfl rfl (by kernel_rfl) (ef_call rfl (XF.mono (xf_demoted cap (some ⟨b, 0, none⟩) 2 k [b0, b1] rfl (Rs.pre2 (rest := rest) (by simp)) (by decide)) ?_))
      rintro v L' ⟨rfl, rfl⟩
      refine ⟨(by first | exact Sb.refl | exact Sb.nil | (repeat (first | exact Sb.nil | exact Sb.refl | exact Sb.app0 | apply Sb.keep | apply Sb.keepApp | apply Sb.cons | apply Sb.app))), ?_⟩
      refine xm_gtake 18 (m' := 524287) rfl (by kernel_rfl) (by first | exact Sb.refl | exact Sb.nil | (repeat (first | exact Sb.nil | exact Sb.refl | exact Sb.app0 | apply Sb.keep | apply Sb.keepApp | apply Sb.cons | apply Sb.app))) rfl rfl (rd_neq rfl rfl) rfl (by kernel_rfl) ?_
      refine xm_take 19 (m' := 1048575) rfl (by kernel_rfl) (by first | exact Sb.refl | exact Sb.nil | (repeat (first | exact Sb.nil | exact Sb.refl | exact Sb.app0 | apply Sb.keep | apply Sb.keepApp | apply Sb.cons | apply Sb.app))) (rd_pickf rfl rfl) rfl (by kernel_rfl) ?_
      refine xm_take 20 (m' := 2097151) rfl (by kernel_rfl) (by first | exact Sb.refl | exact Sb.nil | (repeat (first | exact Sb.nil | exact Sb.refl | exact Sb.app0 | apply Sb.keep | apply Sb.keepApp | apply Sb.cons | apply Sb.app))) (rd_move rfl) rfl (by kernel_rfl) ?_
      refine xm_ndec 43 rfl (fun h => absurd rfl h) (fun _ => ?_)
      refine xm_gtake 21 (m' := 4194303) rfl (by kernel_rfl) (by first | exact Sb.refl | exact Sb.nil | (repeat (first | exact Sb.nil | exact Sb.refl | exact Sb.app0 | apply Sb.keep | apply Sb.keepApp | apply Sb.cons | apply Sb.app))) rfl rfl (rd_move rfl) rfl (by kernel_rfl) ?_
      refine xm_gtake 22 (m' := 8388607) rfl (by kernel_rfl) (by first | exact Sb.refl | exact Sb.nil | (repeat (first | exact Sb.nil | exact Sb.refl | exact Sb.app0 | apply Sb.keep | apply Sb.keepApp | apply Sb.cons | apply Sb.app))) rfl rfl (rd_eql rfl rfl) rfl (by kernel_rfl) ?_
      refine xm_gtake 23 (m' := 16777215) rfl (by kernel_rfl) (by first | exact Sb.refl | exact Sb.nil | (repeat (first | exact Sb.nil | exact Sb.refl | exact Sb.app0 | apply Sb.keep | apply Sb.keepApp | apply Sb.cons | apply Sb.app))) rfl rfl (rd_move rfl) rfl (by kernel_rfl) ?_
      refine xm_dec 46 rfl (fun h7 => ?_) (fun h7 => ?_)
      refine xm_gtake 24 (m' := 33554431) rfl (by kernel_rfl) (by first | exact Sb.refl | exact Sb.nil | (repeat (first | exact Sb.nil | exact Sb.refl | exact Sb.app0 | apply Sb.keep | apply Sb.keepApp | apply Sb.cons | apply Sb.app))) rfl rfl (rd_fieldAddr rfl) rfl (by kernel_rfl) ?_
      refine xm_gtake 25 (m' := 67108863) rfl (by kernel_rfl) (by first | exact Sb.refl | exact Sb.nil | (repeat (first | exact Sb.nil | exact Sb.refl | exact Sb.app0 | apply Sb.keep | apply Sb.keepApp | apply Sb.cons | apply Sb.app))) rfl rfl (rd_load1 rfl (Cl.o1 rfl)) rfl (by kernel_rfl) ?_
      refine xm_gtake 26 (m' := 134217727) rfl (by kernel_rfl) (by first | exact Sb.refl | exact Sb.nil | (repeat (first | exact Sb.nil | exact Sb.refl | exact Sb.app0 | apply Sb.keep | apply Sb.keepApp | apply Sb.cons | apply Sb.app))) rfl rfl (rd_len rfl) rfl (by kernel_rfl) ?_
      refine xm_gtake 27 (m' := 268435455) rfl (by kernel_rfl) (by first | exact Sb.refl | exact Sb.nil | (repeat (first | exact Sb.nil | exact Sb.refl | exact Sb.app0 | apply Sb.keep | apply Sb.keepApp | apply Sb.cons | apply Sb.app))) rfl rfl (rd_neq rfl rfl) rfl (by kernel_rfl) ?_
      refine xm_gtake 28 (m' := 536870911) rfl (by kernel_rfl) (by first | exact Sb.refl | exact Sb.nil | (repeat (first | exact Sb.nil | exact Sb.refl | exact Sb.app0 | apply Sb.keep | apply Sb.keepApp | apply Sb.cons | apply Sb.app))) rfl rfl (rd_move rfl) rfl (by kernel_rfl) ?_
      refine xm_gtake 29 (m' := 1073741823) rfl (by kernel_rfl) (by first | exact Sb.refl | exact Sb.nil | (repeat (first | exact Sb.nil | exact Sb.refl | exact Sb.app0 | apply Sb.keep | apply Sb.keepApp | apply Sb.cons | apply Sb.app))) rfl rfl (rd_fieldAddr rfl) rfl (by kernel_rfl) ?_
      refine xm_gtake 30 (m' := 2147483647) rfl (by kernel_rfl) (by first | exact Sb.refl | exact Sb.nil | (repeat (first | exact Sb.nil | exact Sb.refl | exact Sb.app0 | apply Sb.keep | apply Sb.keepApp | apply Sb.cons | apply Sb.app))) rfl rfl (rd_load1 rfl (Cl.o1 rfl)) rfl (by kernel_rfl) ?_
      refine xm_gtake 31 (m' := 4294967295) rfl (by kernel_rfl) (by first | exact Sb.refl | exact Sb.nil | (repeat (first | exact Sb.nil | exact Sb.refl | exact Sb.app0 | apply Sb.keep | apply Sb.keepApp | apply Sb.cons | apply Sb.app))) rfl rfl (rd_indexAddr rfl rfl (by omega) (by omega)) rfl (by kernel_rfl) ?_
      refine xm_gtake 32 (m' := 8589934591) rfl (by kernel_rfl) (by first | exact Sb.refl | exact Sb.nil | (repeat (first | exact Sb.nil | exact Sb.refl | exact Sb.app0 | apply Sb.keep | apply Sb.keepApp | apply Sb.cons | apply Sb.app))) rfl rfl (rd_load1 rfl (Cl.o0 rfl)) rfl (by kernel_rfl) ?_
      refine xm_gtake 33 (m' := 17179869183) rfl (by kernel_rfl) (by first | exact Sb.refl | exact Sb.nil | (repeat (first | exact Sb.nil | exact Sb.refl | exact Sb.app0 | apply Sb.keep | apply Sb.keepApp | apply Sb.cons | apply Sb.app))) rfl rfl (rd_not rfl) rfl (by kernel_rfl) ?_
      refine xm_gtake 34 (m' := 34359738367) rfl (by kernel_rfl) (by first | exact Sb.refl | exact Sb.nil | (repeat (first | exact Sb.nil | exact Sb.refl | exact Sb.app0 | apply Sb.keep | apply Sb.keepApp | apply Sb.cons | apply Sb.app))) rfl rfl (rd_pickf rfl rfl) rfl (by kernel_rfl) ?_
      refine xm_gtake 35 (m' := 68719476735) rfl (by kernel_rfl) (by first | exact Sb.refl | exact Sb.nil | (repeat (first | exact Sb.nil | exact Sb.refl | exact Sb.app0 | apply Sb.keep | apply Sb.keepApp | apply Sb.cons | apply Sb.app))) rfl rfl (rd_pickt rfl rfl) rfl (by kernel_rfl) ?_
      refine xm_take 36 (m' := 137438953471) rfl (by kernel_rfl) (by first | exact Sb.refl | exact Sb.nil | (repeat (first | exact Sb.nil | exact Sb.refl | exact Sb.app0 | apply Sb.keep | apply Sb.keepApp | apply Sb.cons | apply Sb.app))) (rd_pickf rfl rfl) rfl (by kernel_rfl) ?_
      refine xm_done (by kernel_rfl) ?_
      refine xq_seq ?_
      refine xc_cond rfl (fun h8 => ?_) (fun h8 => ?_)
      refine xc_seq ?_
      refine xc_region ?_
      refine xo_rd (rd_assign rfl) rfl ?_
      refine xo_nil ?_
      refine xq_seq ?_
      refine xc_ret ?_
      refine xq_block_ret ?_
      refine xq_then_ret ?_
      refine xq_then_ret ?_
      refine xq_block_ret ?_
      refine xq_then_ret ?_
      rotate_left
      refine xc_skip ?_
      refine xq_block ?_
      refine xq_seq ?_
      refine xc_region ?_
      refine xo_rd (rd_move rfl) rfl ?_
      refine xo_rd (rd_addn rfl rfl (by omega) (by omega)) rfl ?_
      refine xo_rd (rd_assign rfl) rfl ?_
      refine xo_nil ?_
      rotate_left
      refine xm_gskip 24 (m' := 33554431) rfl (by kernel_rfl) (by first | exact Sb.refl | exact Sb.nil | (repeat (first | exact Sb.nil | exact Sb.refl | exact Sb.app0 | apply Sb.keep | apply Sb.keepApp | apply Sb.cons | apply Sb.app))) rfl rfl rfl rfl (by kernel_rfl) ?_
      refine xm_gskip 25 (m' := 67108863) rfl (by kernel_rfl) (by first | exact Sb.refl | exact Sb.nil | (repeat (first | exact Sb.nil | exact Sb.refl | exact Sb.app0 | apply Sb.keep | apply Sb.keepApp | apply Sb.cons | apply Sb.app))) rfl rfl rfl rfl (by kernel_rfl) ?_
      refine xm_gskip 26 (m' := 134217727) rfl (by kernel_rfl) (by first | exact Sb.refl | exact Sb.nil | (repeat (first | exact Sb.nil | exact Sb.refl | exact Sb.app0 | apply Sb.keep | apply Sb.keepApp | apply Sb.cons | apply Sb.app))) rfl rfl rfl rfl (by kernel_rfl) ?_
      refine xm_gskip 27 (m' := 268435455) rfl (by kernel_rfl) (by first | exact Sb.refl | exact Sb.nil | (repeat (first | exact Sb.nil | exact Sb.refl | exact Sb.app0 | apply Sb.keep | apply Sb.keepApp | apply Sb.cons | apply Sb.app))) rfl rfl rfl rfl (by kernel_rfl) ?_
      refine xm_gskip 28 (m' := 536870911) rfl (by kernel_rfl) (by first | exact Sb.refl | exact Sb.nil | (repeat (first | exact Sb.nil | exact Sb.refl | exact Sb.app0 | apply Sb.keep | apply Sb.keepApp | apply Sb.cons | apply Sb.app))) rfl rfl rfl rfl (by kernel_rfl) ?_
      refine xm_gskipU 29 (m' := 1073741823) rfl (by kernel_rfl) (by first | exact Sb.refl | exact Sb.nil | (repeat (first | exact Sb.nil | exact Sb.refl | exact Sb.app0 | apply Sb.keep | apply Sb.keepApp | apply Sb.cons | apply Sb.app))) rfl rfl rfl (by kernel_rfl) ?_
      refine xm_gskipU 30 (m' := 2147483647) rfl (by kernel_rfl) (by first | exact Sb.refl | exact Sb.nil | (repeat (first | exact Sb.nil | exact Sb.refl | exact Sb.app0 | apply Sb.keep | apply Sb.keepApp | apply Sb.cons | apply Sb.app))) rfl rfl rfl (by kernel_rfl) ?_
      refine xm_gskipU 31 (m' := 4294967295) rfl (by kernel_rfl) (by first | exact Sb.refl | exact Sb.nil | (repeat (first | exact Sb.nil | exact Sb.refl | exact Sb.app0 | apply Sb.keep | apply Sb.keepApp | apply Sb.cons | apply Sb.app))) rfl rfl rfl (by kernel_rfl) ?_
      refine xm_gskipU 32 (m' := 8589934591) rfl (by kernel_rfl) (by first | exact Sb.refl | exact Sb.nil | (repeat (first | exact Sb.nil | exact Sb.refl | exact Sb.app0 | apply Sb.keep | apply Sb.keepApp | apply Sb.cons | apply Sb.app))) rfl rfl rfl (by kernel_rfl) ?_
      refine xm_gskipU 33 (m' := 17179869183) rfl (by kernel_rfl) (by first | exact Sb.refl | exact Sb.nil | (repeat (first | exact Sb.nil | exact Sb.refl | exact Sb.app0 | apply Sb.keep | apply Sb.keepApp | apply Sb.cons | apply Sb.app))) rfl rfl rfl (by kernel_rfl) ?_
      refine xm_gskip 34 (m' := 34359738367) rfl (by kernel_rfl) (by first | exact Sb.refl | exact Sb.nil | (repeat (first | exact Sb.nil | exact Sb.refl | exact Sb.app0 | apply Sb.keep | apply Sb.keepApp | apply Sb.cons | apply Sb.app))) rfl rfl rfl rfl (by kernel_rfl) ?_
      refine xm_gtake 35 (m' := 68719476735) rfl (by kernel_rfl) (by first | exact Sb.refl | exact Sb.nil | (repeat (first | exact Sb.nil | exact Sb.refl | exact Sb.app0 | apply Sb.keep | apply Sb.keepApp | apply Sb.cons | apply Sb.app))) rfl rfl (rd_pickf rfl rfl) rfl (by kernel_rfl) ?_
      refine xm_take 36 (m' := 137438953471) rfl (by kernel_rfl) (by first | exact Sb.refl | exact Sb.nil | (repeat (first | exact Sb.nil | exact Sb.refl | exact Sb.app0 | apply Sb.keep | apply Sb.keepApp | apply Sb.cons | apply Sb.app))) (rd_pickf rfl rfl) rfl (by kernel_rfl) ?_
      refine xm_done (by kernel_rfl) ?_
      refine xq_seq ?_
      refine xc_condf rfl ?_
      refine xc_skip ?_
      refine xq_block ?_
      refine xq_seq ?_
      refine xc_region ?_
      refine xo_rd (rd_move rfl) rfl ?_
      refine xo_rd (rd_addn rfl rfl (by omega) (by omega)) rfl ?_
      refine xo_rd (rd_assign rfl) rfl ?_
      refine xo_nil ?_
      rotate_left
      refine xm_one 4 (m' := 543) rfl (by kernel_rfl) rfl (by kernel_rfl) (ef_call rfl (XF.mono (xf_example) ?_))
      rintro v L' ⟨ra, rb, rfl, rfl⟩
      refine ⟨(by first | exact Sb.refl | exact Sb.nil | (repeat (first | exact Sb.nil | exact Sb.refl | exact Sb.app0 | apply Sb.keep | apply Sb.keepApp | apply Sb.cons | apply Sb.app))), ?_⟩
      refine xm_one 5 (m' := 575) rfl (by kernel_rfl) rfl (by kernel_rfl) (ef_call rfl (XF.mono (xf_alloc3 (rts.getD i 0) (some ⟨ra, 0, none⟩) (some ⟨rb, 0, none⟩) 3 3 2 2 [10, 20, 40] [5, 7] rfl rfl (Rs.fresh (T := 22) (fr := (0, 0)) (by simp)) (Rs.fresh (T := 22) (fr := (0, 0)) (by simp)) exU.1 exU.2 (by decide) (by decide) exR cap b0 b1 hz) ?_))
      rintro v L' ⟨b, k, rest, rfl, rfl⟩
      refine ⟨(by first | exact Sb.refl | exact Sb.nil | (repeat (first | exact Sb.nil | exact Sb.refl | exact Sb.app0 | apply Sb.keep | apply Sb.keepApp | apply Sb.cons | apply Sb.app))), ?_⟩
      refine xm_take 6 (m' := 639) rfl (by kernel_rfl) (by first | exact Sb.refl | exact Sb.nil | (repeat (first | exact Sb.nil | exact Sb.refl | exact Sb.app0 | apply Sb.keep | apply Sb.keepApp | apply Sb.cons | apply Sb.app))) (rd_move rfl) rfl (by kernel_rfl) ?_
      refine xm_take 7 (m' := 767) rfl (by kernel_rfl) (by first | exact Sb.refl | exact Sb.nil | (repeat (first | exact Sb.nil | exact Sb.refl | exact Sb.app0 | apply Sb.keep | apply Sb.keepApp | apply Sb.cons | apply Sb.app))) (rd_extract rfl rfl) rfl (by kernel_rfl) ?_
      refine xm_take 8 (m' := 1023) rfl (by kernel_rfl) (by first | exact Sb.refl | exact Sb.nil | (repeat (first | exact Sb.nil | exact Sb.refl | exact Sb.app0 | apply Sb.keep | apply Sb.keepApp | apply Sb.cons | apply Sb.app))) (rd_extract rfl rfl) rfl (by kernel_rfl) ?_
      refine xm_one 10 (m' := 2047) rfl (by kernel_rfl) rfl (by kernel_rfl) (ef_storeB [_, _, _] _ rfl rfl (by first | rfl | assumption) rfl rfl rfl ?_)
      refine ⟨(by first | exact Sb.refl | exact Sb.nil | (repeat (first | exact Sb.nil | exact Sb.refl | exact Sb.app0 | apply Sb.keep | apply Sb.keepApp | apply Sb.cons | apply Sb.app))), ?_⟩
      refine xm_take 11 (m' := 4095) rfl (by kernel_rfl) (by first | exact Sb.refl | exact Sb.nil | (repeat (first | exact Sb.nil | exact Sb.refl | exact Sb.app0 | apply Sb.keep | apply Sb.keepApp | apply Sb.cons | apply Sb.app))) (rd_assign rfl) rfl (by kernel_rfl) ?_
      refine xm_done (by kernel_rfl) ?_
      refine xq_seq ?_
      refine xc_seq ?_
      refine xc_drawML [0, 1, 2, 4, 12, 4, 4, 100, 132, 276, 516, 1028, 2048, 6144, 2048, 2048, 51200, 67584, 141312, 264192, 532480, 1048576, 3145728, 5242880, 8388608, 25165824, 41943040, 75497472, 142606336, 268435456, 805306368, 1342177280, 2415919104, 4563402752, 8866758656, 17189306368, 34360786944] [0, 1, 2, 4, 12, 4, 4, 100, 132, 276, 516, 1028, 2048, 6144, 2048, 2048, 51200, 67584, 141312, 264192, 532480, 1048576, 3145728, 5242880, 8388608, 25165824, 41943040, 75497472, 142606336, 268435456, 805306368, 1342177280, 2415919104, 4563402752, 8866758656, 17189306368, 34360786944] (by kernel_rfl) (by kernel_rfl) (by kernel_rfl) ?_
      refine xm_take 0 (m' := 1) rfl (by kernel_rfl) (by first | exact Sb.refl | exact Sb.nil | (repeat (first | exact Sb.nil | exact Sb.refl | exact Sb.app0 | apply Sb.keep | apply Sb.keepApp | apply Sb.cons | apply Sb.app))) (rd_move rfl) rfl (by kernel_rfl) ?_
      refine xm_take 1 (m' := 3) rfl (by kernel_rfl) (by first | exact Sb.refl | exact Sb.nil | (repeat (first | exact Sb.nil | exact Sb.refl | exact Sb.app0 | apply Sb.keep | apply Sb.keepApp | apply Sb.cons | apply Sb.app))) (rd_neq rfl rfl) rfl (by kernel_rfl) ?_
      refine xm_take 2 (m' := 7) rfl (by kernel_rfl) (by first | exact Sb.refl | exact Sb.nil | (repeat (first | exact Sb.nil | exact Sb.refl | exact Sb.app0 | apply Sb.keep | apply Sb.keepApp | apply Sb.cons | apply Sb.app))) (rd_move rfl) rfl (by kernel_rfl) ?_
      refine xm_gtake 3 (m' := 15) rfl (by kernel_rfl) (by first | exact Sb.refl | exact Sb.nil | (repeat (first | exact Sb.nil | exact Sb.refl | exact Sb.app0 | apply Sb.keep | apply Sb.keepApp | apply Sb.cons | apply Sb.app))) rfl rfl (rd_fieldAddr rfl) rfl (by kernel_rfl) ?_
      refine xm_gtake 4 (m' := 31) rfl (by kernel_rfl) (by first | exact Sb.refl | exact Sb.nil | (repeat (first | exact Sb.nil | exact Sb.refl | exact Sb.app0 | apply Sb.keep | apply Sb.keepApp | apply Sb.cons | apply Sb.app))) rfl rfl (rd_load1 rfl (Cl.o3 rfl)) rfl (by kernel_rfl) ?_
      refine xm_gtake 5 (m' := 63) rfl (by kernel_rfl) (by first | exact Sb.refl | exact Sb.nil | (repeat (first | exact Sb.nil | exact Sb.refl | exact Sb.app0 | apply Sb.keep | apply Sb.keepApp | apply Sb.cons | apply Sb.app))) rfl rfl (rd_move rfl) rfl (by kernel_rfl) ?_
      refine xm_gtake 6 (m' := 127) rfl (by kernel_rfl) (by first | exact Sb.refl | exact Sb.nil | (repeat (first | exact Sb.nil | exact Sb.refl | exact Sb.app0 | apply Sb.keep | apply Sb.keepApp | apply Sb.cons | apply Sb.app))) rfl rfl (rd_move rfl) rfl (by kernel_rfl) ?_
      refine xm_gtake 7 (m' := 255) rfl (by kernel_rfl) (by first | exact Sb.refl | exact Sb.nil | (repeat (first | exact Sb.nil | exact Sb.refl | exact Sb.app0 | apply Sb.keep | apply Sb.keepApp | apply Sb.cons | apply Sb.app))) rfl rfl (rd_indexAddr rfl rfl (by omega) (by omega)) rfl (by kernel_rfl) ?_
      refine xm_gtake 8 (m' := 511) rfl (by kernel_rfl) (by first | exact Sb.refl | exact Sb.nil | (repeat (first | exact Sb.nil | exact Sb.refl | exact Sb.app0 | apply Sb.keep | apply Sb.keepApp | apply Sb.cons | apply Sb.app))) rfl rfl (rd_load1 rfl (Cl.own (b := r2) (v := .int .i64 cap) (cs := (ints .i64 cps).toArray) (T := 3) (fr := (0, 0)) (by simp) (by simpa using hr2))) rfl (by kernel_rfl) ?_
      refine xm_gtake 9 (m' := 1023) rfl (by kernel_rfl) (by first | exact Sb.refl | exact Sb.nil | (repeat (first | exact Sb.nil | exact Sb.refl | exact Sb.app0 | apply Sb.keep | apply Sb.keepApp | apply Sb.cons | apply Sb.app))) rfl rfl (rd_neq rfl rfl) rfl (by kernel_rfl) ?_
      refine xm_take 10 (m' := 2047) rfl (by kernel_rfl) (by first | exact Sb.refl | exact Sb.nil | (repeat (first | exact Sb.nil | exact Sb.refl | exact Sb.app0 | apply Sb.keep | apply Sb.keepApp | apply Sb.cons | apply Sb.app))) (rd_pickf rfl rfl) rfl (by kernel_rfl) ?_
      refine xm_take 11 (m' := 4095) rfl (by kernel_rfl) (by first | exact Sb.refl | exact Sb.nil | (repeat (first | exact Sb.nil | exact Sb.refl | exact Sb.app0 | apply Sb.keep | apply Sb.keepApp | apply Sb.cons | apply Sb.app))) (rd_move rfl) rfl (by kernel_rfl) ?_
      refine xm_ndec 34 rfl (fun h => absurd rfl h) (fun _ => ?_)
      refine xm_gtake 12 (m' := 8191) rfl (by kernel_rfl) (by first | exact Sb.refl | exact Sb.nil | (repeat (first | exact Sb.nil | exact Sb.refl | exact Sb.app0 | apply Sb.keep | apply Sb.keepApp | apply Sb.cons | apply Sb.app))) rfl rfl (rd_loadB rfl Kn.o3 (by rfl)) rfl (by kernel_rfl) ?_
      refine xm_gtake 14 (m' := 24575) rfl (by kernel_rfl) (by first | exact Sb.refl | exact Sb.nil | (repeat (first | exact Sb.nil | exact Sb.refl | exact Sb.app0 | apply Sb.keep | apply Sb.keepApp | apply Sb.cons | apply Sb.app))) rfl rfl (rd_move rfl) rfl (by kernel_rfl) ?_
      refine xm_gtake 15 (m' := 57343) rfl (by kernel_rfl) (by first | exact Sb.refl | exact Sb.nil | (repeat (first | exact Sb.nil | exact Sb.refl | exact Sb.app0 | apply Sb.keep | apply Sb.keepApp | apply Sb.cons | apply Sb.app))) rfl rfl (rd_move rfl) rfl (by kernel_rfl) ?_
      refine xm_gtake 16 (m' := 122879) rfl (by kernel_rfl) (by first | exact Sb.refl | exact Sb.nil | (repeat (first | exact Sb.nil | exact Sb.refl | exact Sb.app0 | apply Sb.keep | apply Sb.keepApp | apply Sb.cons | apply Sb.app))) rfl rfl (rd_indexAddr rfl rfl (by omega) (by omega)) rfl (by kernel_rfl) ?_
      refine xm_gtake 17 (m' := 253951) rfl (by kernel_rfl) (by first | exact Sb.refl | exact Sb.nil | (repeat (first | exact Sb.nil | exact Sb.refl | exact Sb.app0 | apply Sb.keep | apply Sb.keepApp | apply Sb.cons | apply Sb.app))) rfl rfl (rd_load1 rfl (Cl.own (b := r3) (v := .int .i64 (offs [b0, b1])) (cs := (ints .i64 ofs).toArray) (T := 3) (fr := (0, 0)) (by simp) (by simpa using hr3))) rfl (by kernel_rfl) ?_
      refine xm_gone 13 (m' := 262143) rfl (by kernel_rfl) rfl rfl rfl (by kernel_rfl) (ef_call rfl (XF.mono (xf_demoted cap (some ⟨b, 0, none⟩) 2 k [b0, b1] rfl (Rs.pre2 (rest := rest) (by simp)) (by decide)) ?_))
      rintro v L' ⟨rfl, rfl⟩
      refine ⟨(by first | exact Sb.refl | exact Sb.nil | (repeat (first | exact Sb.nil | exact Sb.refl | exact Sb.app0 | apply Sb.keep | apply Sb.keepApp | apply Sb.cons | apply Sb.app))), ?_⟩
      refine xm_gtake 18 (m' := 524287) rfl (by kernel_rfl) (by first | exact Sb.refl | exact Sb.nil | (repeat (first | exact Sb.nil | exact Sb.refl | exact Sb.app0 | apply Sb.keep | apply Sb.keepApp | apply Sb.cons | apply Sb.app))) rfl rfl (rd_neq rfl rfl) rfl (by kernel_rfl) ?_
      refine xm_take 19 (m' := 1048575) rfl (by kernel_rfl) (by first | exact Sb.refl | exact Sb.nil | (repeat (first | exact Sb.nil | exact Sb.refl | exact Sb.app0 | apply Sb.keep | apply Sb.keepApp | apply Sb.cons | apply Sb.app))) (rd_pickf rfl rfl) rfl (by kernel_rfl) ?_
      refine xm_take 20 (m' := 2097151) rfl (by kernel_rfl) (by first | exact Sb.refl | exact Sb.nil | (repeat (first | exact Sb.nil | exact Sb.refl | exact Sb.app0 | apply Sb.keep | apply Sb.keepApp | apply Sb.cons | apply Sb.app))) (rd_move rfl) rfl (by kernel_rfl) ?_
      refine xm_ndec 43 rfl (fun h => absurd rfl h) (fun _ => ?_)
      refine xm_gtake 21 (m' := 4194303) rfl (by kernel_rfl) (by first | exact Sb.refl | exact Sb.nil | (repeat (first | exact Sb.nil | exact Sb.refl | exact Sb.app0 | apply Sb.keep | apply Sb.keepApp | apply Sb.cons | apply Sb.app))) rfl rfl (rd_move rfl) rfl (by kernel_rfl) ?_
      refine xm_gtake 22 (m' := 8388607) rfl (by kernel_rfl) (by first | exact Sb.refl | exact Sb.nil | (repeat (first | exact Sb.nil | exact Sb.refl | exact Sb.app0 | apply Sb.keep | apply Sb.keepApp | apply Sb.cons | apply Sb.app))) rfl rfl (rd_eql rfl rfl) rfl (by kernel_rfl) ?_
      refine xm_gtake 23 (m' := 16777215) rfl (by kernel_rfl) (by first | exact Sb.refl | exact Sb.nil | (repeat (first | exact Sb.nil | exact Sb.refl | exact Sb.app0 | apply Sb.keep | apply Sb.keepApp | apply Sb.cons | apply Sb.app))) rfl rfl (rd_move rfl) rfl (by kernel_rfl) ?_
      refine xm_dec 46 rfl (fun h11 => ?_) (fun h11 => ?_)
      refine xm_gtake 24 (m' := 33554431) rfl (by kernel_rfl) (by first | exact Sb.refl | exact Sb.nil | (repeat (first | exact Sb.nil | exact Sb.refl | exact Sb.app0 | apply Sb.keep | apply Sb.keepApp | apply Sb.cons | apply Sb.app))) rfl rfl (rd_fieldAddr rfl) rfl (by kernel_rfl) ?_
      refine xm_gtake 25 (m' := 67108863) rfl (by kernel_rfl) (by first | exact Sb.refl | exact Sb.nil | (repeat (first | exact Sb.nil | exact Sb.refl | exact Sb.app0 | apply Sb.keep | apply Sb.keepApp | apply Sb.cons | apply Sb.app))) rfl rfl (rd_load1 rfl (Cl.o3 rfl)) rfl (by kernel_rfl) ?_
      refine xm_gtake 26 (m' := 134217727) rfl (by kernel_rfl) (by first | exact Sb.refl | exact Sb.nil | (repeat (first | exact Sb.nil | exact Sb.refl | exact Sb.app0 | apply Sb.keep | apply Sb.keepApp | apply Sb.cons | apply Sb.app))) rfl rfl (rd_len rfl) rfl (by kernel_rfl) ?_
      refine xm_gtake 27 (m' := 268435455) rfl (by kernel_rfl) (by first | exact Sb.refl | exact Sb.nil | (repeat (first | exact Sb.nil | exact Sb.refl | exact Sb.app0 | apply Sb.keep | apply Sb.keepApp | apply Sb.cons | apply Sb.app))) rfl rfl (rd_neq rfl rfl) rfl (by kernel_rfl) ?_
      refine xm_gtake 28 (m' := 536870911) rfl (by kernel_rfl) (by first | exact Sb.refl | exact Sb.nil | (repeat (first | exact Sb.nil | exact Sb.refl | exact Sb.app0 | apply Sb.keep | apply Sb.keepApp | apply Sb.cons | apply Sb.app))) rfl rfl (rd_move rfl) rfl (by kernel_rfl) ?_
      refine xm_gtake 29 (m' := 1073741823) rfl (by kernel_rfl) (by first | exact Sb.refl | exact Sb.nil | (repeat (first | exact Sb.nil | exact Sb.refl | exact Sb.app0 | apply Sb.keep | apply Sb.keepApp | apply Sb.cons | apply Sb.app))) rfl rfl (rd_fieldAddr rfl) rfl (by kernel_rfl) ?_
      refine xm_gtake 30 (m' := 2147483647) rfl (by kernel_rfl) (by first | exact Sb.refl | exact Sb.nil | (repeat (first | exact Sb.nil | exact Sb.refl | exact Sb.app0 | apply Sb.keep | apply Sb.keepApp | apply Sb.cons | apply Sb.app))) rfl rfl (rd_load1 rfl (Cl.o3 rfl)) rfl (by kernel_rfl) ?_
      refine xm_gtake 31 (m' := 4294967295) rfl (by kernel_rfl) (by first | exact Sb.refl | exact Sb.nil | (repeat (first | exact Sb.nil | exact Sb.refl | exact Sb.app0 | apply Sb.keep | apply Sb.keepApp | apply Sb.cons | apply Sb.app))) rfl rfl (rd_indexAddr rfl rfl (by omega) (by omega)) rfl (by kernel_rfl) ?_
      refine xm_gtake 32 (m' := 8589934591) rfl (by kernel_rfl) (by first | exact Sb.refl | exact Sb.nil | (repeat (first | exact Sb.nil | exact Sb.refl | exact Sb.app0 | apply Sb.keep | apply Sb.keepApp | apply Sb.cons | apply Sb.app))) rfl rfl (rd_load1 rfl (Cl.o0 rfl)) rfl (by kernel_rfl) ?_
      refine xm_gtake 33 (m' := 17179869183) rfl (by kernel_rfl) (by first | exact Sb.refl | exact Sb.nil | (repeat (first | exact Sb.nil | exact Sb.refl | exact Sb.app0 | apply Sb.keep | apply Sb.keepApp | apply Sb.cons | apply Sb.app))) rfl rfl (rd_not rfl) rfl (by kernel_rfl) ?_
      refine xm_gtake 34 (m' := 34359738367) rfl (by kernel_rfl) (by first | exact Sb.refl | exact Sb.nil | (repeat (first | exact Sb.nil | exact Sb.refl | exact Sb.app0 | apply Sb.keep | apply Sb.keepApp | apply Sb.cons | apply Sb.app))) rfl rfl (rd_pickf rfl rfl) rfl (by kernel_rfl) ?_
      refine xm_gtake 35 (m' := 68719476735) rfl (by kernel_rfl) (by first | exact Sb.refl | exact Sb.nil | (repeat (first | exact Sb.nil | exact Sb.refl | exact Sb.app0 | apply Sb.keep | apply Sb.keepApp | apply Sb.cons | apply Sb.app))) rfl rfl (rd_pickt rfl rfl) rfl (by kernel_rfl) ?_
      refine xm_take 36 (m' := 137438953471) rfl (by kernel_rfl) (by first | exact Sb.refl | exact Sb.nil | (repeat (first | exact Sb.nil | exact Sb.refl | exact Sb.app0 | apply Sb.keep | apply Sb.keepApp | apply Sb.cons | apply Sb.app))) (rd_pickf rfl rfl) rfl (by kernel_rfl) ?_
      refine xm_done (by kernel_rfl) ?_
      refine xq_seq ?_
      refine xc_cond rfl (fun h12 => ?_) (fun h12 => ?_)
      refine xc_seq ?_
      refine xc_region ?_
      refine xo_rd (rd_assign rfl) rfl ?_
      refine xo_nil ?_
      refine xq_seq ?_
      refine xc_ret ?_
      refine xq_block_ret ?_
      refine xq_then_ret ?_
      refine xq_then_ret ?_
      refine xq_block_ret ?_
      refine xq_then_ret ?_
      rotate_left
      refine xc_skip ?_
      refine xq_block ?_
      refine xq_seq ?_
      refine xc_region ?_
      refine xo_rd (rd_move rfl) rfl ?_
      refine xo_rd (rd_addn rfl rfl (by omega) (by omega)) rfl ?_
      refine xo_rd (rd_assign rfl) rfl ?_
      refine xo_nil ?_
      rotate_left
      refine xm_gskip 24 (m' := 33554431) rfl (by kernel_rfl) (by first | exact Sb.refl | exact Sb.nil | (repeat (first | exact Sb.nil | exact Sb.refl | exact Sb.app0 | apply Sb.keep | apply Sb.keepApp | apply Sb.cons | apply Sb.app))) rfl rfl rfl rfl (by kernel_rfl) ?_
      refine xm_gskip 25 (m' := 67108863) rfl (by kernel_rfl) (by first | exact Sb.refl | exact Sb.nil | (repeat (first | exact Sb.nil | exact Sb.refl | exact Sb.app0 | apply Sb.keep | apply Sb.keepApp | apply Sb.cons | apply Sb.app))) rfl rfl rfl rfl (by kernel_rfl) ?_
      refine xm_gskip 26 (m' := 134217727) rfl (by kernel_rfl) (by first | exact Sb.refl | exact Sb.nil | (repeat (first | exact Sb.nil | exact Sb.refl | exact Sb.app0 | apply Sb.keep | apply Sb.keepApp | apply Sb.cons | apply Sb.app))) rfl rfl rfl rfl (by kernel_rfl) ?_
      refine xm_gskip 27 (m' := 268435455) rfl (by kernel_rfl) (by first | exact Sb.refl | exact Sb.nil | (repeat (first | exact Sb.nil | exact Sb.refl | exact Sb.app0 | apply Sb.keep | apply Sb.keepApp | apply Sb.cons | apply Sb.app))) rfl rfl rfl rfl (by kernel_rfl) ?_
      refine xm_gskip 28 (m' := 536870911) rfl (by kernel_rfl) (by first | exact Sb.refl | exact Sb.nil | (repeat (first | exact Sb.nil | exact Sb.refl | exact Sb.app0 | apply Sb.keep | apply Sb.keepApp | apply Sb.cons | apply Sb.app))) rfl rfl rfl rfl (by kernel_rfl) ?_
      refine xm_gskipU 29 (m' := 1073741823) rfl (by kernel_rfl) (by first | exact Sb.refl | exact Sb.nil | (repeat (first | exact Sb.nil | exact Sb.refl | exact Sb.app0 | apply Sb.keep | apply Sb.keepApp | apply Sb.cons | apply Sb.app))) rfl rfl rfl (by kernel_rfl) ?_
      refine xm_gskipU 30 (m' := 2147483647) rfl (by kernel_rfl) (by first | exact Sb.refl | exact Sb.nil | (repeat (first | exact Sb.nil | exact Sb.refl | exact Sb.app0 | apply Sb.keep | apply Sb.keepApp | apply Sb.cons | apply Sb.app))) rfl rfl rfl (by kernel_rfl) ?_
      refine xm_gskipU 31 (m' := 4294967295) rfl (by kernel_rfl) (by first | exact Sb.refl | exact Sb.nil | (repeat (first | exact Sb.nil | exact Sb.refl | exact Sb.app0 | apply Sb.keep | apply Sb.keepApp | apply Sb.cons | apply Sb.app))) rfl rfl rfl (by kernel_rfl) ?_
      refine xm_gskipU 32 (m' := 8589934591) rfl (by kernel_rfl) (by first | exact Sb.refl | exact Sb.nil | (repeat (first | exact Sb.nil | exact Sb.refl | exact Sb.app0 | apply Sb.keep | apply Sb.keepApp | apply Sb.cons | apply Sb.app))) rfl rfl rfl (by kernel_rfl) ?_
      refine xm_gskipU 33 (m' := 17179869183) rfl (by kernel_rfl) (by first | exact Sb.refl | exact Sb.nil | (repeat (first | exact Sb.nil | exact Sb.refl | exact Sb.app0 | apply Sb.keep | apply Sb.keepApp | apply Sb.cons | apply Sb.app))) rfl rfl rfl (by kernel_rfl) ?_
      refine xm_gskip 34 (m' := 34359738367) rfl (by kernel_rfl) (by first | exact Sb.refl | exact Sb.nil | (repeat (first | exact Sb.nil | exact Sb.refl | exact Sb.app0 | apply Sb.keep | apply Sb.keepApp | apply Sb.cons | apply Sb.app))) rfl rfl rfl rfl (by kernel_rfl) ?_
      refine xm_gtake 35 (m' := 68719476735) rfl (by kernel_rfl) (by first | exact Sb.refl | exact Sb.nil | (repeat (first | exact Sb.nil | exact Sb.refl | exact Sb.app0 | apply Sb.keep | apply Sb.keepApp | apply Sb.cons | apply Sb.app))) rfl rfl (rd_pickf rfl rfl) rfl (by kernel_rfl) ?_
      refine xm_take 36 (m' := 137438953471) rfl (by kernel_rfl) (by first | exact Sb.refl | exact Sb.nil | (repeat (first | exact Sb.nil | exact Sb.refl | exact Sb.app0 | apply Sb.keep | apply Sb.keepApp | apply Sb.cons | apply Sb.app))) (rd_pickf rfl rfl) rfl (by kernel_rfl) ?_
      refine xm_done (by kernel_rfl) ?_
      refine xq_seq ?_
      refine xc_condf rfl ?_
      refine xc_skip ?_
      refine xq_block ?_
      refine xq_seq ?_
      refine xc_region ?_
      refine xo_rd (rd_move rfl) rfl ?_
      refine xo_rd (rd_addn rfl rfl (by omega) (by omega)) rfl ?_
      refine xo_rd (rd_assign rfl) rfl ?_
      refine xo_nil ?_
      rotate_left
    all_goals first
      | exact xq_tail (xq_tail (xq_tail (xq_tail (xq_roundI (i + 1) (by omega) (by omega) rfl (by repeat (first | exact keep_nil | refine keep_cons rfl ?_))))))
      | (exfalso; have := hq3 (by omega); simp_all)
end Go.Proofs.Ytnghandgghfloaa.X
