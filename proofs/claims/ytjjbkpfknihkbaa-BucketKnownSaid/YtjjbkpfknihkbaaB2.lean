/-
  The bucket, by walks of my own.
-/
import Derived.Test.YtjjbkpfknihkbaaB1
import Derived.Test.YtjjbkpfknihkbaaX9
namespace Go.Proofs.Ytjjbkpfknihkbaa.X
open Go Go.RowKit
set_option linter.unusedVariables false

structure Bk where
  (r b t a : Int)
  deriving DecidableEq
def Bk.enc (x : Bk) : List Value := [.int .u64 x.r, .int .u64 x.b, .int .u64 x.t, .int .u64 x.a]
structure Bk.Ok (x : Bk) : Prop where
  r0 : 0 ≤ x.r
  r1 : x.r ≤ top
  b1 : 0 < x.b
  b2 : x.b ≤ top
  t0 : 0 ≤ x.t
  t1 : x.t ≤ top
  tb : x.t ≤ x.b
  a0 : 0 ≤ x.a
  a1 : x.a ≤ top
/-- The block in which a bucket lies. -/
abbrev Bk.at (x : Bk) (p : Nat) : Blk := (p, .cells x.enc.toArray 56 (0, 0))
def cut (b a : Int) : Int := if a < b then a else b
def Bk.fill (x : Bk) (n : Int) : Bk := if x.a < n then ⟨x.r, x.b, cut x.b (plus x.t (times x.r (n - x.a))), n⟩ else x
def Bk.may (x : Bk) (n : Int) : Prop := n ≤ x.t
instance (x : Bk) (n : Int) : Decidable (x.may n) := by unfold Bk.may; infer_instance
def Bk.take (x : Bk) (n : Int) : Bk := if x.may n then ⟨x.r, x.b, x.t - n, x.a⟩ else x
def Bk.change (x : Bk) (r n : Int) : Bk := ⟨r, (x.fill n).b, (x.fill n).t, (x.fill n).a⟩
def Bk.until' (x : Bk) (n : Int) : Int × Bool :=
  if x.may n then (x.a, true) else if x.b < n ∨ x.r = 0 then (0, false) else if top - x.a < (n - x.t - 1) / x.r + 1 then (0, false) else (x.a + ((n - x.t - 1) / x.r + 1), true)

/-- What stays of it while its tokens are reckoned. -/
def Bk.S (x : Bk) (W : World) (p : Nat) (L : List Blk) (w : World) : Prop := ∃ u, Hp W w ((p, .cells [.int .u64 x.r, .int .u64 x.b, u, .int .u64 x.a].toArray 56 (0, 0)) :: L)

theorem xf_new0 {W : World} {L : List Blk} (r a : Int) : XF Try.prog W 9 #[.int .u64 r, .int .u64 0, .int .u64 a] L (fun v L' => v = .tuple #[.pointer none, .int .i64 2] ∧ L' = L) := by
  refine xf_enter (args := [_, _, _]) Try.func9 rfl Try.ntmps9 rfl ?_
  refine xc_seq ?_
  refine xc_region ?_
  refine xo_rd (rd_assign rfl) rfl ?_
  refine xo_rd (rd_assign rfl) rfl ?_
  refine xo_nil ?_
  refine xq_seq ?_
  refine xc_seq ?_
  refine xc_seq ?_
  refine xc_region ?_
  refine xo_rd (rd_move rfl) rfl ?_
  refine xo_rd (rd_eql rfl rfl) rfl ?_
  refine xo_nil ?_
  refine xq_seq ?_
  refine xc_condt rfl ?_
  refine xc_seq ?_
  refine xc_region ?_
  refine xo_rd (rd_assign rfl) rfl ?_
  refine xo_rd (rd_assign rfl) rfl ?_
  refine xo_nil ?_
  refine xq_seq ?_
  refine xc_ret ?_
  refine xq_then_ret ?_
  refine xq_ret2 (.inl rfl) Try.results9 rfl rfl ⟨rfl, rfl⟩

theorem xf_new {W : World} {L : List Blk} (r b a : Int) (hb : b ≠ 0) : XF Try.prog W 9 #[.int .u64 r, .int .u64 b, .int .u64 a] L (fun v L' => ∃ p, v = .tuple #[.pointer (some ⟨p, 0, none⟩), .int .i64 0] ∧ L' = (Bk.mk r b b a).at p :: L) := by
  refine xf_enter (args := [_, _, _]) Try.func9 rfl Try.ntmps9 rfl ?_
  refine xc_seq ?_
  refine xc_region ?_
  refine xo_rd (rd_assign rfl) rfl ?_
  refine xo_rd (rd_assign rfl) rfl ?_
  refine xo_nil ?_
  refine xq_seq ?_
  refine xc_seq ?_
  refine xc_seq ?_
  refine xc_region ?_
  refine xo_rd (rd_move rfl) rfl ?_
  refine xo_rd (rd_eql rfl rfl) rfl ?_
  refine xo_nil ?_
  refine xq_seq ?_
  refine xc_dec rfl (fun h => absurd h hb) (fun h => ?_)
  refine xc_skip ?_
  refine xq_seq ?_
  refine xc_seq ?_
  refine xc_region ?_
  refine xo_rd (rd_move rfl) rfl ?_
  refine xo_rd (rd_move rfl) rfl ?_
  refine xo_rd (rd_move rfl) rfl ?_
  refine xo_rd (rd_move rfl) rfl ?_
  refine xo_rd (rd_build rfl rfl rfl) rfl ?_
  refine xo_ef rfl (ef_box rfl fun p => ?_)
  refine xo_rd (rd_assign rfl) rfl ?_
  refine xo_rd (rd_assign rfl) rfl ?_
  refine xo_nil ?_
  refine xq_seq ?_
  refine xc_ret ?_
  refine xq_ret2 (.inl rfl) Try.results9 rfl rfl ⟨p, rfl, rfl⟩

theorem xf_tokens {W : World} {L : List Blk} (x : Bk) (p : Nat) : XF Try.prog W 13 #[.pointer (some ⟨p, 0, none⟩)] (x.at p :: L) (fun v L' => v = .int .u64 x.t ∧ L' = x.at p :: L) := by
  refine xf_enter (args := [_]) Try.func13 rfl Try.ntmps13 rfl ?_
  refine xc_seq ?_
  refine xc_region ?_
  refine xo_rd (rd_assign rfl) rfl ?_
  refine xo_nil ?_
  refine xq_seq ?_
  refine xc_seq ?_
  refine xc_seq ?_
  refine xc_region ?_
  refine xo_rd (rd_move rfl) rfl ?_
  refine xo_rd (rd_eqnil rfl) rfl ?_
  refine xo_nil ?_
  refine xq_seq ?_
  refine xc_condf rfl ?_
  refine xc_skip ?_
  refine xq_seq ?_
  refine xc_seq ?_
  refine xc_region ?_
  refine xo_rd (rd_move rfl) rfl ?_
  refine xo_rd (rd_nilCheck rfl) rfl ?_
  refine xo_rd (rd_fieldAddr rfl) rfl ?_
  refine xo_rd (rd_load1 rfl (Cl.o0 rfl)) rfl ?_
  refine xo_rd (rd_assign rfl) rfl ?_
  refine xo_nil ?_
  refine xq_seq ?_
  refine xc_ret ?_
  refine xq_ret1 (.inl rfl) Try.results13 rfl ⟨rfl, rfl⟩

theorem xf_rate {W : World} {L : List Blk} (x : Bk) (p : Nat) : XF Try.prog W 26 #[.pointer (some ⟨p, 0, none⟩)] (x.at p :: L) (fun v L' => v = .int .u64 x.r ∧ L' = x.at p :: L) := by
  refine xf_enter (args := [_]) Try.func26 rfl Try.ntmps26 rfl ?_
  refine xc_seq ?_
  refine xc_region ?_
  refine xo_rd (rd_assign rfl) rfl ?_
  refine xo_nil ?_
  refine xq_seq ?_
  refine xc_seq ?_
  refine xc_seq ?_
  refine xc_region ?_
  refine xo_rd (rd_move rfl) rfl ?_
  refine xo_rd (rd_eqnil rfl) rfl ?_
  refine xo_nil ?_
  refine xq_seq ?_
  refine xc_condf rfl ?_
  refine xc_skip ?_
  refine xq_seq ?_
  refine xc_seq ?_
  refine xc_region ?_
  refine xo_rd (rd_move rfl) rfl ?_
  refine xo_rd (rd_nilCheck rfl) rfl ?_
  refine xo_rd (rd_fieldAddr rfl) rfl ?_
  refine xo_rd (rd_load1 rfl (Cl.o0 rfl)) rfl ?_
  refine xo_rd (rd_assign rfl) rfl ?_
  refine xo_nil ?_
  refine xq_seq ?_
  refine xc_ret ?_
  refine xq_ret1 (.inl rfl) Try.results26 rfl ⟨rfl, rfl⟩
theorem xf_burst {W : World} {L : List Blk} (x : Bk) (p : Nat) : XF Try.prog W 27 #[.pointer (some ⟨p, 0, none⟩)] (x.at p :: L) (fun v L' => v = .int .u64 x.b ∧ L' = x.at p :: L) := by
  refine xf_enter (args := [_]) Try.func27 rfl Try.ntmps27 rfl ?_
  refine xc_seq ?_
  refine xc_region ?_
  refine xo_rd (rd_assign rfl) rfl ?_
  refine xo_nil ?_
  refine xq_seq ?_
  refine xc_seq ?_
  refine xc_seq ?_
  refine xc_region ?_
  refine xo_rd (rd_move rfl) rfl ?_
  refine xo_rd (rd_eqnil rfl) rfl ?_
  refine xo_nil ?_
  refine xq_seq ?_
  refine xc_condf rfl ?_
  refine xc_skip ?_
  refine xq_seq ?_
  refine xc_seq ?_
  refine xc_region ?_
  refine xo_rd (rd_move rfl) rfl ?_
  refine xo_rd (rd_nilCheck rfl) rfl ?_
  refine xo_rd (rd_fieldAddr rfl) rfl ?_
  refine xo_rd (rd_load1 rfl (Cl.o0 rfl)) rfl ?_
  refine xo_rd (rd_assign rfl) rfl ?_
  refine xo_nil ?_
  refine xq_seq ?_
  refine xc_ret ?_
  refine xq_ret1 (.inl rfl) Try.results27 rfl ⟨rfl, rfl⟩
theorem xf_may {W : World} {L : List Blk} (x : Bk) (p : Nat) (n : Int) : XF Try.prog W 17 #[.pointer (some ⟨p, 0, none⟩), .int .u64 n] (x.at p :: L) (fun v L' => v = .bool (decide (x.may n)) ∧ L' = x.at p :: L) := by
  refine xf_enter (args := [_, _]) Try.func17 rfl Try.ntmps17 rfl ?_
  refine xc_seq ?_
  refine xc_region ?_
  refine xo_rd (rd_assign rfl) rfl ?_
  refine xo_nil ?_
  refine xq_seq ?_
  refine xc_seq ?_
  refine xc_region ?_
  refine xo_rd (rd_move rfl) rfl ?_
  refine xo_rd (rd_nenil rfl) rfl ?_
  refine xo_rd (rd_move rfl) rfl ?_
  refine xo_grd rfl rfl (rd_move rfl) rfl ?_
  refine xo_grd rfl rfl (rd_move rfl) rfl ?_
  refine xo_grd rfl rfl (rd_nilCheck rfl) rfl ?_
  refine xo_grd rfl rfl (rd_fieldAddr rfl) rfl ?_
  refine xo_grd rfl rfl (rd_load1 rfl (Cl.o0 rfl)) rfl ?_
  refine xo_grd rfl rfl (rd_leq rfl rfl) rfl ?_
  refine xo_rd (rd_pickt rfl rfl) rfl ?_
  refine xo_rd (rd_assign rfl) rfl ?_
  refine xo_nil ?_
  refine xq_seq ?_
  refine xc_ret ?_
  refine xq_ret1 (.inl rfl) Try.results17 rfl ⟨rfl, rfl⟩
set_option maxHeartbeats 8000000 in
theorem xf_fill {W : World} {L : List Blk} (x : Bk) (p : Nat) (n : Int) (hx : x.Ok) (hn : 0 ≤ n) (hn' : n ≤ top) : XF Try.prog W 11 #[.pointer (some ⟨p, 0, none⟩), .int .u64 n] (x.at p :: L) (fun v L' => v = .int .u64 (x.fill n).t ∧ L' = (x.fill n).at p :: L) := by
  refine xf_enter (args := [_, _]) Try.func11 rfl Try.ntmps11 rfl ?_
  refine xc_seq ?_
  refine xc_region ?_
  refine xo_rd (rd_assign rfl) rfl ?_
  refine xo_nil ?_
  refine xq_seq ?_
  refine xc_seq ?_
  refine xc_seq ?_
  refine xc_region ?_
  refine xo_rd (rd_move rfl) rfl ?_
  refine xo_rd (rd_nenil rfl) rfl ?_
  refine xo_rd (rd_move rfl) rfl ?_
  refine xo_grd rfl rfl (rd_move rfl) rfl ?_
  refine xo_grd rfl rfl (rd_move rfl) rfl ?_
  refine xo_grd rfl rfl (rd_nilCheck rfl) rfl ?_
  refine xo_grd rfl rfl (rd_fieldAddr rfl) rfl ?_
  refine xo_grd rfl rfl (rd_load1 rfl (Cl.o0 rfl)) rfl ?_
  refine xo_grd rfl rfl (rd_gtr rfl rfl) rfl ?_
  refine xo_rd (rd_pickt rfl rfl) rfl ?_
  refine xo_nil ?_
  refine xq_seq ?_
  refine xc_dec rfl (fun h => ?_) (fun h => ?_)
  · have hf : x.fill n = ⟨x.r, x.b, cut x.b (plus x.t (times x.r (n - x.a))), n⟩ := if_pos h
    have d0 := hx.a0
    have hr0 := hx.r0
    have hr1 := hx.r1
    have ht0 := hx.t0
    have ht1 := hx.t1
    have e1 : 0 ≤ n - x.a := by omega
    have e2 : n - x.a ≤ top := by omega
    rw [hf]
    refine xc_seq ?_
    refine xc_draw [x.at p] ?_
    refine xr_take 0 rfl (by kernel_rfl) (by kernel_rfl) (by kernel_rfl) (by first | exact Sb.refl | exact Sb.nil | (repeat (first | exact Sb.nil | exact Sb.refl | apply Sb.keep | apply Sb.cons))) (rd_move rfl) rfl ?_
    refine xr_take 1 rfl (by kernel_rfl) (by kernel_rfl) (by kernel_rfl) (by first | exact Sb.refl | exact Sb.nil | (repeat (first | exact Sb.nil | exact Sb.refl | apply Sb.keep | apply Sb.cons))) (rd_nilCheck rfl) rfl ?_
    refine xr_take 2 rfl (by kernel_rfl) (by kernel_rfl) (by kernel_rfl) (by first | exact Sb.refl | exact Sb.nil | (repeat (first | exact Sb.nil | exact Sb.refl | apply Sb.keep | apply Sb.cons))) (rd_fieldAddr rfl) rfl ?_
    refine xr_take 3 rfl (by kernel_rfl) (by kernel_rfl) (by kernel_rfl) (by first | exact Sb.refl | exact Sb.nil | (repeat (first | exact Sb.nil | exact Sb.refl | apply Sb.keep | apply Sb.cons))) (rd_load1 rfl (Cl.o0 rfl)) rfl ?_
    refine xr_take 4 rfl (by kernel_rfl) (by kernel_rfl) (by kernel_rfl) (by first | exact Sb.refl | exact Sb.nil | (repeat (first | exact Sb.nil | exact Sb.refl | apply Sb.keep | apply Sb.cons))) (rd_move rfl) rfl ?_
    refine xr_take 5 rfl (by kernel_rfl) (by kernel_rfl) (by kernel_rfl) (by first | exact Sb.refl | exact Sb.nil | (repeat (first | exact Sb.nil | exact Sb.refl | apply Sb.keep | apply Sb.cons))) (rd_move rfl) rfl ?_
    refine xr_take 6 rfl (by kernel_rfl) (by kernel_rfl) (by kernel_rfl) (by first | exact Sb.refl | exact Sb.nil | (repeat (first | exact Sb.nil | exact Sb.refl | apply Sb.keep | apply Sb.cons))) (rd_nilCheck rfl) rfl ?_
    refine xr_take 7 rfl (by kernel_rfl) (by kernel_rfl) (by kernel_rfl) (by first | exact Sb.refl | exact Sb.nil | (repeat (first | exact Sb.nil | exact Sb.refl | apply Sb.keep | apply Sb.cons))) (rd_fieldAddr rfl) rfl ?_
    refine xr_take 8 rfl (by kernel_rfl) (by kernel_rfl) (by kernel_rfl) (by first | exact Sb.refl | exact Sb.nil | (repeat (first | exact Sb.nil | exact Sb.refl | apply Sb.keep | apply Sb.cons))) (rd_load1 rfl (Cl.o0 rfl)) rfl ?_
    refine xr_take 9 rfl (by kernel_rfl) (by kernel_rfl) (by kernel_rfl) (by first | exact Sb.refl | exact Sb.nil | (repeat (first | exact Sb.nil | exact Sb.refl | apply Sb.keep | apply Sb.cons))) (rd_subn rfl rfl (by omega) (by omega)) rfl ?_
    refine xr_one 10 rfl (by kernel_rfl) rfl ?_
    refine ef_slice1 rfl rfl rfl fun r2 => ?_
    refine ⟨(by first | exact Sb.refl | exact Sb.nil | (repeat (first | exact Sb.nil | exact Sb.refl | apply Sb.keep | apply Sb.cons))), ?_⟩
    refine xr_one 11 rfl (by kernel_rfl) rfl ?_
    refine ef_call rfl ((xf_does 29 times x.r (n - x.a) r2 0 (fun L => xf_times _ _ hr0 hr1 e1 e2) (Cl.o0 (vs := [_]) rfl)).mono ?_)
    rintro v L' ⟨rfl, rfl⟩
    refine ⟨(by first | exact Sb.refl | exact Sb.nil | (repeat (first | exact Sb.nil | exact Sb.refl | apply Sb.keep | apply Sb.cons))), ?_⟩
    refine xr_take 12 rfl (by kernel_rfl) (by kernel_rfl) (by kernel_rfl) (by first | exact Sb.refl | exact Sb.nil | (repeat (first | exact Sb.nil | exact Sb.refl | apply Sb.keep | apply Sb.cons))) (rd_assign rfl) rfl ?_
    refine xr_done (by kernel_rfl) ?_
    refine xq_seq ?_
    refine xc_seq ?_
    refine xc_tail ?_
    have hM : ∀ w, Hp W w (x.at p :: L) → x.S W p L w := fun w hw => ⟨_, hw⟩
    have hM2 : ∀ r3 v w, Hp W w ((r3, .cells #[v] 54 (0, 0)) :: x.at p :: L) → x.S W p L w := fun r3 v w hw => ⟨_, hw.sub (List.sublist_cons_self _ _)⟩
    refine xs_draw (x.S W p L) ?_
    refine xs_take 0 rfl (by kernel_rfl) (by kernel_rfl) (by kernel_rfl) hM (fun w ⟨u, hu⟩ => ⟨_, hu, rd_move rfl⟩) rfl ?_
    refine xs_take 1 rfl (by kernel_rfl) (by kernel_rfl) (by kernel_rfl) hM (fun w ⟨u, hu⟩ => ⟨_, hu, rd_move rfl⟩) rfl ?_
    refine xs_take 2 rfl (by kernel_rfl) (by kernel_rfl) (by kernel_rfl) hM (fun w ⟨u, hu⟩ => ⟨_, hu, rd_nilCheck rfl⟩) rfl ?_
    refine xs_take 3 rfl (by kernel_rfl) (by kernel_rfl) (by kernel_rfl) hM (fun w ⟨u, hu⟩ => ⟨_, hu, rd_fieldAddr rfl⟩) rfl ?_
    refine xs_take 4 rfl (by kernel_rfl) (by kernel_rfl) (by kernel_rfl) hM (fun w ⟨u, hu⟩ => ⟨_, hu, rd_load1 rfl (Cl.o0 (vs := [_, _, _, _]) rfl)⟩) rfl ?_
    refine xs_take 5 rfl (by kernel_rfl) (by kernel_rfl) (by kernel_rfl) hM (fun w ⟨u, hu⟩ => ⟨_, hu, rd_move rfl⟩) rfl ?_
    refine xs_take 6 rfl (by kernel_rfl) (by kernel_rfl) (by kernel_rfl) hM (fun w ⟨u, hu⟩ => ⟨_, hu, rd_nilCheck rfl⟩) rfl ?_
    refine xs_take 7 rfl (by kernel_rfl) (by kernel_rfl) (by kernel_rfl) hM (fun w ⟨u, hu⟩ => ⟨_, hu, rd_fieldAddr rfl⟩) rfl ?_
    refine xs_take 9 rfl (by kernel_rfl) (by kernel_rfl) (by kernel_rfl) hM (fun w ⟨u, hu⟩ => ⟨_, hu, rd_move rfl⟩) rfl ?_
    refine xs_two 8 10 rfl rfl (by kernel_rfl) rfl rfl (ef_rd (rd_load1 rfl (Cl.o0 rfl)) ⟨hM, ?_⟩) (ef_slice1 rfl rfl rfl fun r3 => ⟨hM2 r3 _, ?_⟩)
    refine xs_one 10 rfl (by kernel_rfl) rfl (ef_slice1 rfl rfl rfl fun r3 => ⟨hM2 r3 _, ?_⟩)
    refine xs_one 11 rfl (by kernel_rfl) rfl ?_
    refine ef_call rfl ((xf_does 30 plus x.t (times x.r (n - x.a)) r3 0 (fun L => xf_plus _ _ ht0 ht1 (times_nonneg hr0 e1) (times_le _ _)) (Cl.o0 (vs := [_]) rfl)).mono ?_)
    rintro v L' ⟨rfl, rfl⟩
    refine ⟨hM2 r3 _, ?_⟩
    refine xs_take 12 rfl (by kernel_rfl) (by kernel_rfl) (by kernel_rfl) (hM2 r3 _) (fun w ⟨u, hu⟩ => ⟨_, hu, rd_min rfl rfl⟩) rfl ?_
    refine xs_take 13 rfl (by kernel_rfl) (by kernel_rfl) (by kernel_rfl) (hM2 r3 _) (fun w ⟨u, hu⟩ => ⟨_, hu, rd_nilCheck rfl⟩) rfl ?_
    refine xs_take 14 rfl (by kernel_rfl) (by kernel_rfl) (by kernel_rfl) (hM2 r3 _) (fun w ⟨u, hu⟩ => ⟨_, hu, rd_fieldAddr rfl⟩) rfl ?_
    refine xs_one 15 rfl (by kernel_rfl) rfl ?_
    refine ef_store1 [_] _ rfl rfl rfl rfl rfl rfl ?_
    refine ⟨fun w hw => ⟨_, (hw.sub (List.sublist_cons_self _ _))⟩, ?_⟩
    refine xs_done (by kernel_rfl) ?_
    refine xq_seq ?_
    refine xc_region ?_
    refine xo_rd (rd_move rfl) rfl ?_
    refine xo_rd (rd_move rfl) rfl ?_
    refine xo_rd (rd_nilCheck rfl) rfl ?_
    refine xo_rd (rd_fieldAddr rfl) rfl ?_
    refine xo_ef rfl (ef_store1 [_] _ rfl rfl (by first | rfl | assumption) rfl rfl rfl ?_)
    refine xo_nil ?_
    refine xq_seq ?_
    refine xc_seq ?_
    refine xc_region ?_
    refine xo_rd (rd_move rfl) rfl ?_
    refine xo_tail ?_
    refine xo_ef rfl (ef_call rfl ((xf_tokens ⟨x.r, x.b, cut x.b (plus x.t (times x.r (n - x.a))), n⟩ p).mono ?_))
    rintro v L' ⟨rfl, rfl⟩
    refine xo_rd (rd_assign rfl) rfl ?_
    refine xo_nil ?_
    refine xq_seq ?_
    refine xc_ret ?_
    refine xq_ret1 (.inl rfl) Try.results11 rfl ⟨rfl, rfl⟩
    refine xs_one 8 rfl (by kernel_rfl) rfl (ef_rd (rd_load1 rfl (Cl.o1 rfl)) ⟨hM2 r3 _, ?_⟩)
    refine xs_one 11 rfl (by kernel_rfl) rfl ?_
    refine ef_call rfl ((xf_does 30 plus x.t (times x.r (n - x.a)) r3 0 (fun L => xf_plus _ _ ht0 ht1 (times_nonneg hr0 e1) (times_le _ _)) (Cl.o0 (vs := [_]) rfl)).mono ?_)
    rintro v L' ⟨rfl, rfl⟩
    refine ⟨hM2 r3 _, ?_⟩
    refine xs_take 12 rfl (by kernel_rfl) (by kernel_rfl) (by kernel_rfl) (hM2 r3 _) (fun w ⟨u, hu⟩ => ⟨_, hu, rd_min rfl rfl⟩) rfl ?_
    refine xs_take 13 rfl (by kernel_rfl) (by kernel_rfl) (by kernel_rfl) (hM2 r3 _) (fun w ⟨u, hu⟩ => ⟨_, hu, rd_nilCheck rfl⟩) rfl ?_
    refine xs_take 14 rfl (by kernel_rfl) (by kernel_rfl) (by kernel_rfl) (hM2 r3 _) (fun w ⟨u, hu⟩ => ⟨_, hu, rd_fieldAddr rfl⟩) rfl ?_
    refine xs_one 15 rfl (by kernel_rfl) rfl ?_
    refine ef_store1 [_] _ rfl rfl rfl rfl rfl rfl ?_
    refine ⟨fun w hw => ⟨_, (hw.sub (List.sublist_cons_self _ _))⟩, ?_⟩
    refine xs_done (by kernel_rfl) ?_
    refine xq_seq ?_
    refine xc_region ?_
    refine xo_rd (rd_move rfl) rfl ?_
    refine xo_rd (rd_move rfl) rfl ?_
    refine xo_rd (rd_nilCheck rfl) rfl ?_
    refine xo_rd (rd_fieldAddr rfl) rfl ?_
    refine xo_ef rfl (ef_store1 [_] _ rfl rfl (by first | rfl | assumption) rfl rfl rfl ?_)
    refine xo_nil ?_
    refine xq_seq ?_
    refine xc_seq ?_
    refine xc_region ?_
    refine xo_rd (rd_move rfl) rfl ?_
    refine xo_tail ?_
    refine xo_ef rfl (ef_call rfl ((xf_tokens ⟨x.r, x.b, cut x.b (plus x.t (times x.r (n - x.a))), n⟩ p).mono ?_))
    rintro v L' ⟨rfl, rfl⟩
    refine xo_rd (rd_assign rfl) rfl ?_
    refine xo_nil ?_
    refine xq_seq ?_
    refine xc_ret ?_
    refine xq_ret1 (.inl rfl) Try.results11 rfl ⟨rfl, rfl⟩
  · rw [show x.fill n = x from if_neg h]
    refine xc_skip ?_
    refine xq_seq ?_
    refine xc_seq ?_
    refine xc_region ?_
    refine xo_rd (rd_move rfl) rfl ?_
    refine xo_ef rfl (ef_call rfl ((xf_tokens x p).mono ?_))
    rintro v L' ⟨rfl, rfl⟩
    refine xo_rd (rd_assign rfl) rfl ?_
    refine xo_nil ?_
    refine xq_seq ?_
    refine xc_ret ?_
    refine xq_ret1 (.inl rfl) Try.results11 rfl ⟨rfl, rfl⟩
theorem xf_take {W : World} {L : List Blk} (x : Bk) (p : Nat) (n : Int) (hx : x.Ok) (hn : 0 ≤ n) (hn' : n ≤ top) : XF Try.prog W 12 #[.pointer (some ⟨p, 0, none⟩), .int .u64 n] (x.at p :: L) (fun v L' => v = .bool (decide (x.may n)) ∧ L' = (x.take n).at p :: L) := by
  refine xf_enter (args := [_, _]) Try.func12 rfl Try.ntmps12 rfl ?_
  refine xc_seq ?_
  refine xc_region ?_
  refine xo_rd (rd_assign rfl) rfl ?_
  refine xo_nil ?_
  refine xq_seq ?_
  refine xc_seq ?_
  refine xc_seq ?_
  refine xc_region ?_
  refine xo_rd (rd_move rfl) rfl ?_
  refine xo_rd (rd_move rfl) rfl ?_
  refine xo_ef rfl (ef_call rfl ((xf_may x p n).mono ?_))
  rintro v L' ⟨rfl, rfl⟩
  refine xo_rd (rd_not rfl) rfl ?_
  refine xo_nil ?_
  refine xq_seq ?_
  refine xc_ndec rfl (fun h => ?_) (fun h => ?_)
  · rw [show x.take n = x from if_neg h]
    refine xc_seq ?_
    refine xc_region ?_
    refine xo_rd (rd_assign rfl) rfl ?_
    refine xo_nil ?_
    refine xq_seq ?_
    refine xc_ret ?_
    refine xq_then_ret ?_
    refine xq_ret1 (.inl rfl) Try.results12 rfl ⟨by rw [decide_eq_false h], rfl⟩
  · rw [show x.take n = ⟨x.r, x.b, x.t - n, x.a⟩ from if_pos h]
    refine xc_skip ?_
    refine xq_seq ?_
    refine xc_seq ?_
    refine xc_region ?_
    refine xo_rd (rd_move rfl) rfl ?_
    refine xo_rd (rd_nilCheck rfl) rfl ?_
    refine xo_rd (rd_fieldAddr rfl) rfl ?_
    refine xo_rd (rd_load1 rfl (Cl.o0 rfl)) rfl ?_
    refine xo_rd (rd_move rfl) rfl ?_
    refine xo_rd (rd_sub rfl rfl) rfl ?_
    refine xo_rd (rd_nilCheck rfl) rfl ?_
    refine xo_rd (rd_fieldAddr rfl) rfl ?_
    refine xo_ef rfl (ef_store1 [] _ rfl rfl (by first | rfl | assumption) rfl rfl rfl ?_)
    refine xo_nil ?_
    refine xq_seq ?_
    refine xc_seq ?_
    refine xc_region ?_
    refine xo_rd (rd_assign rfl) rfl ?_
    refine xo_nil ?_
    refine xq_seq ?_
    refine xc_ret ?_
    have e := wrap_u64 (x.t - n)
    rw [Int.emod_eq_of_lt (by have := h; unfold Bk.may at this; omega) (by have := hx.t1; unfold top at this; omega)] at e
    refine xq_ret1 (.inl rfl) Try.results12 rfl ⟨by rw [decide_eq_true h], ?_⟩
    rw [e]; rfl
theorem xf_change {W : World} {L : List Blk} (x : Bk) (p : Nat) (r n : Int) (hx : x.Ok) (hn : 0 ≤ n) (hn' : n ≤ top) : XF Try.prog W 23 #[.pointer (some ⟨p, 0, none⟩), .int .u64 r, .int .u64 n] (x.at p :: L) (fun v L' => v = .tuple #[] ∧ L' = (x.change r n).at p :: L) := by
  refine xf_enter (args := [_, _, _]) Try.func23 rfl Try.ntmps23 rfl ?_
  refine xc_seq ?_
  refine xc_region ?_
  refine xo_rd (rd_move rfl) rfl ?_
  refine xo_rd (rd_nenil rfl) rfl ?_
  refine xo_nil ?_
  refine xq_seq ?_
  refine xc_condt rfl ?_
  refine xc_seq ?_
  refine xc_region ?_
  refine xo_rd (rd_move rfl) rfl ?_
  refine xo_rd (rd_move rfl) rfl ?_
  refine xo_ef rfl (ef_call rfl ((xf_fill x p n hx hn hn').mono ?_))
  rintro v L' ⟨rfl, rfl⟩
  refine xo_nil ?_
  refine xq_seq ?_
  refine xc_region ?_
  refine xo_rd (rd_move rfl) rfl ?_
  refine xo_rd (rd_move rfl) rfl ?_
  refine xo_rd (rd_nilCheck rfl) rfl ?_
  refine xo_rd (rd_fieldAddr rfl) rfl ?_
  refine xo_ef rfl (ef_store1 [] _ rfl rfl (by first | rfl | assumption) rfl rfl rfl ?_)
  refine xo_nil ?_
  refine xq_ret0 (.inr rfl) Try.results23 ⟨rfl, rfl⟩
end Go.Proofs.Ytjjbkpfknihkbaa.X
