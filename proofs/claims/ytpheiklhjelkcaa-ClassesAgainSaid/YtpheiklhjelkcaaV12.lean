/-
  Texts of my own, put together: walks and laws for this seat. No condition.
-/
import Derived.Test.YtpheiklhjelkcaaV9
import Derived.Test.YtpheiklhjelkcaaV11
import Derived.Test.YtpheiklhjelkcaaV1
import Derived.ProofKit
import Derived.OpenShut
import Derived.ShutString
import Derived.ChangeOld
import Derived.Carry
/-
  Chapter 19: packets that are sent again wait in order, none of a number twice: a walk of my own.
-/
namespace Go.Proofs.Ytpheiklhjelkcaa.X
open Go Go.RowKit
set_option linter.unusedVariables false
set_option linter.unusedSimpArgs false
/-- The state of Again. -/
structure AgS where
  i : Nat
  es : List Pk
  p : Option Addr
  c : Nat
  l : List Blk
  wp : Option Addr
  wc : Nat
  wl : List Blk
  M : List Blk
structure AgS.Ok (W : World) (s : AgS) : Prop where
  q : SlQ 2 129 (.slice s.p s.es.length s.c) s.es.length (s.es.flatMap Pk.enc) s.l
  w : SlQ 1 36 (.slice s.wp s.es.length s.wc) s.es.length (ints .u16 (s.es.map Pk.s)) s.wl
  pk : ∀ e, e ∈ s.es → e.b = [e.s % 256] ∧ Rs W s.M e.p (ints .u8 e.b)
  len : s.es.length ≤ s.i
def agL (b : Int) (r : Nat) (s : AgS) : List Blk := (r, .cells (acl b s.p s.es.length s.c).toArray 127 (0, 0)) :: (s.l ++ (s.wl ++ s.M))
theorem agL_mk (b : Int) (r i : Nat) (es : List Pk) (p : Option Addr) (c : Nat) (l : List Blk) (wp : Option Addr) (wc : Nat) (wl M : List Blk) : agL b r ⟨i, es, p, c, l, wp, wc, wl, M⟩ = (r, .cells (acl b p es.length c).toArray 127 (0, 0)) :: (l ++ (wl ++ M)) := rfl
def firstB : List Pk → List Int
  | [] => []
  | e :: _ => [e.s % 256]
theorem perm_w3 {a b : Blk} (l2 lb R : List Blk) : (b :: (l2 ++ (lb ++ (a :: R)))).Perm (a :: b :: (l2 ++ (lb ++ R))) := (by classical exact List.perm_iff_count.2 fun a => by simp only [List.append_eq, List.count_append, List.count_cons, List.count_nil, List.cons_append, List.nil_append, List.flatMap_append, List.flatMap_cons, List.flatMap_nil, List.append_nil]; omega)
theorem perm_w4 {a : Blk} (l2 lb wl M : List Blk) : ((a :: (l2 ++ lb)) ++ (wl ++ M)).Perm (a :: (l2 ++ (wl ++ (lb ++ M)))) := (by classical exact List.perm_iff_count.2 fun a => by simp only [List.append_eq, List.count_append, List.count_cons, List.count_nil, List.cons_append, List.nil_append, List.flatMap_append, List.flatMap_cons, List.flatMap_nil, List.append_nil]; omega)
/-- What First told. -/
structure FbS where
  q : Option Addr
  k : Nat
  l : List Blk
set_option maxHeartbeats 3200000 in
theorem again1 {W : World} (b : Int) (lp : Option Addr) (n lc : Nat) (xs : List Int) (hx : xs.length = n) (hr : Rs W [] lp (ints .u16 xs)) :
    XF Try.prog W 5 #[.int .i64 b, .slice lp n lc] [] (fun v L' => v = .bool true) := by
  refine xf_enter (args := [_, _]) Try.func5 rfl Try.ntmps5 rfl ?_
  focus
    refine xc_seq ?_
    refine xc_region ?_
    refine xo_rd (rd_assign rfl) rfl ?_
    refine xo_nil ?_
    refine xq_seq ?_
    refine xc_seq ?_
    refine xc_seq ?_
    refine xc_region ?_
    refine xo_rd (rd_move rfl) rfl ?_
    refine xo_rd (rd_len rfl) rfl ?_
    refine xo_rd (rd_gtr rfl rfl) rfl ?_
    refine xo_nil ?_
    refine xq_seq ?_
    refine xc_dec rfl (fun hz1 => ?_) (fun hz1 => ?_)
    refine xc_seq ?_
    refine xc_region ?_
    refine xo_ef rfl (ef_call rfl (XF.mono (xf_works) ?_))
    rintro v L' ⟨rfl, rfl⟩
    refine xo_rd (rd_assign rfl) rfl ?_
    refine xo_nil ?_
    refine xq_seq ?_
    refine xc_ret ?_
    refine xq_then_ret ?_
    rotate_left
    refine xc_skip ?_
    refine xq_seq ?_
    rotate_left
  · exact xq_ret1 (.inl rfl) Try.results5 rfl rfl
  by_cases hb : 1 ≤ b ∧ b ≤ 256
  case neg =>
    focus
      refine xc_seq ?_
      refine xc_region ?_
      refine xo_rd (rd_move rfl) rfl ?_
      refine xo_ef rfl (ef_call rfl (XF.mono (xf_NewA0 b hb) ?_))
      rintro v L' ⟨rfl, rfl⟩
      refine xo_rd (rd_move rfl) rfl ?_
      refine xo_rd (rd_extract rfl rfl) rfl ?_
      refine xo_rd (rd_extract rfl rfl) rfl ?_
      refine xo_rd (rd_assign rfl) rfl ?_
      refine xo_rd (rd_assign rfl) rfl ?_
      refine xo_nil ?_
      refine xq_seq ?_
      refine xc_seq ?_
      refine xc_seq ?_
      refine xc_region ?_
      refine xo_rd (rd_move rfl) rfl ?_
      refine xo_ef rfl (ef_call rfl (XF.mono (xf_Right b) ?_))
      rintro v L' ⟨rfl, rfl⟩
      refine xo_rd (rd_not rfl) rfl ?_
      refine xo_nil ?_
      refine xq_seq ?_
      refine xc_cond rfl (fun hy1 => ?_) (fun hy1 => ?_)
      refine xc_seq ?_
      refine xc_region ?_
      refine xo_rd (rd_move rfl) rfl ?_
      refine xo_rd (rd_eqnil rfl) rfl ?_
      refine xo_rd (rd_move rfl) rfl ?_
      refine xo_grd rfl rfl (rd_move rfl) rfl ?_
      refine xo_grd rfl rfl (rd_eql rfl rfl) rfl ?_
      refine xo_rd (rd_pickt rfl rfl) rfl ?_
      refine xo_rd (rd_move rfl) rfl ?_
      refine xo_gef rfl rfl rfl (ef_call rfl (XF.mono (xf_works) ?_))
      rintro v L' ⟨rfl, rfl⟩
      refine xo_rd (rd_pickt rfl rfl) rfl ?_
      refine xo_rd (rd_assign rfl) rfl ?_
      refine xo_nil ?_
      refine xq_seq ?_
      refine xc_ret ?_
      refine xq_then_ret ?_
      rotate_left
      refine xc_skip ?_
      refine xq_seq ?_
      rotate_left
    · exact xq_ret1 (.inl rfl) Try.results5 rfl rfl
    · exfalso
      apply hb
      simpa using hy1
  focus
    refine xc_seq ?_
    refine xc_region ?_
    refine xo_rd (rd_move rfl) rfl ?_
    refine xo_ef rfl (ef_call rfl (XF.mono (xf_NewA b hb) ?_))
    rintro v L' ⟨r, rfl, rfl⟩
    refine xo_rd (rd_move rfl) rfl ?_
    refine xo_rd (rd_extract rfl rfl) rfl ?_
    refine xo_rd (rd_extract rfl rfl) rfl ?_
    refine xo_rd (rd_assign rfl) rfl ?_
    refine xo_rd (rd_assign rfl) rfl ?_
    refine xo_nil ?_
    refine xq_seq ?_
    refine xc_seq ?_
    refine xc_seq ?_
    refine xc_region ?_
    refine xo_rd (rd_move rfl) rfl ?_
    refine xo_ef rfl (ef_call rfl (XF.mono (xf_Right b) ?_))
    rintro v L' ⟨rfl, rfl⟩
    refine xo_rd (rd_not rfl) rfl ?_
    refine xo_nil ?_
    refine xq_seq ?_
    refine xc_cond rfl (fun hy1 => ?_) (fun hy1 => ?_)
    refine xc_seq ?_
    refine xc_region ?_
    refine xo_rd (rd_move rfl) rfl ?_
    refine xo_rd (rd_eqnil rfl) rfl ?_
    refine xo_rd (rd_move rfl) rfl ?_
    refine xo_gskip rfl rfl rfl rfl ?_
    refine xo_gskip rfl rfl rfl rfl ?_
    refine xo_rd (rd_pickf rfl rfl) rfl ?_
    refine xo_rd (rd_move rfl) rfl ?_
    refine xo_gskip rfl rfl rfl rfl ?_
    refine xo_rd (rd_pickf rfl rfl) rfl ?_
    refine xo_rd (rd_assign rfl) rfl ?_
    refine xo_nil ?_
    refine xq_seq ?_
    refine xc_ret ?_
    refine xq_then_ret ?_
    rotate_left
    refine xc_skip ?_
    refine xq_seq ?_
    rotate_left
  · exfalso
    rw [decide_eq_true hb.1, decide_eq_true hb.2] at hy1
    cases hy1
  focus
    refine xc_seq ?_
    refine xc_region ?_
    refine xo_rd (rd_assign rfl) rfl ?_
    refine xo_nil ?_
    refine xq_seq ?_
    refine xc_seq ?_
    refine xc_seq ?_
    refine xc_region ?_
    refine xo_rd (rd_assign rfl) rfl ?_
    refine xo_nil ?_
    refine xq_seq ?_
    refine xc_block ?_
  refine xc_loopI (ι := AgS) (fun s => s.i ≤ n ∧ s.Ok W) (fun s => n - s.i) (fun s => agL b r s) (fun s => [(0, .int .i64 b), (1, .slice lp n lc), (5, .pointer (some ⟨r, 0, none⟩)), (6, .int .i64 0), (7, .slice s.wp s.es.length s.wc), (8, .int .i64 s.i)]) ⟨0, [], none, 0, [], none, 0, [], []⟩ ⟨Nat.zero_le _, ⟨SlQ.nil, SlQ.nil, (fun e h => by cases h), Nat.le_refl _⟩⟩ rfl (by repeat (first | exact keep_nil | refine keep_cons rfl ?_)) ?_
  rintro ⟨i, es, p1, c1, l, wp, wc, wl, M⟩ ⟨hi, hok⟩
  rw [agL_mk]
  obtain ⟨hq, hw, hpk, hlen⟩ := hok
  dsimp only at hi hq hw hpk hlen ⊢
  have hn40 : n ≤ 40 := by omega
  by_cases hin : i < n
  · obtain ⟨b2, o2, hp2, hcl⟩ := hr.int (i := i) (by omega)
    subst hp2
    generalize xs[i] = x at *
    have hcx : ∀ L', Cl W L' b2 (o2 + (i : Int).toNat * 1) (.int .u16 x) := fun L' => hcl.mono fun z h => by cases h
    focus
      refine xc_seq ?_
      refine xc_seq ?_
      refine xc_region ?_
      refine xo_rd (rd_move rfl) rfl ?_
      refine xo_rd (rd_move rfl) rfl ?_
      refine xo_rd (rd_len rfl) rfl ?_
      refine xo_rd (rd_lss rfl rfl) rfl ?_
      refine xo_nil ?_
      refine xq_seq ?_
      refine xc_dec rfl (fun h1 => ?_) (fun h1 => (by exfalso; omega))
      refine xc_skip ?_
      refine xq_seq ?_
    refine xc_seq (xc_block ?_)
    refine xc_join (ι := FbS) (fun s => SlO 1 5 (.slice s.q (firstB es).length s.k) (firstB es).length (ints .u8 (firstB es)) s.l) (fun s => (r, .cells (acl b p1 es.length c1).toArray 127 (0, 0)) :: (s.l ++ (l ++ (wl ++ M)))) (fun s => [(0, .int .i64 b), (1, .slice (some ⟨b2, o2, none⟩) n lc), (5, .pointer (some ⟨r, 0, none⟩)), (6, .int .i64 0), (7, .slice wp es.length wc), (8, .int .i64 i), (9, .slice s.q (firstB es).length s.k), (10, .bool (decide ((0 : Int) < (es.length : Int))))]) ?_ ?_
    · cases es with
      | nil =>
        focus
          refine xc_region ?_
          refine xo_rd (rd_move rfl) rfl ?_
          refine xo_ef rfl (ef_call rfl (XF.mono (xf_AFirst0 r p1 c1 (Cl.o0 rfl)) ?_))
          rintro v L' ⟨rfl, rfl⟩
          refine xo_rd (rd_move rfl) rfl ?_
          refine xo_rd (rd_extract rfl rfl) rfl ?_
          refine xo_rd (rd_extract rfl rfl) rfl ?_
          refine xo_rd (rd_assign rfl) rfl ?_
          refine xo_rd (rd_assign rfl) rfl ?_
          refine xo_nil ?_
        exact xq_joined (⟨none, 0, []⟩ : FbS) SlO.nil rfl (by repeat (first | exact keep_nil | refine keep_cons rfl ?_))
      | cons e es =>
        obtain ⟨he1, he2⟩ := hpk e (List.mem_cons_self ..)
        have hdt : (decide ((0 : Int) < ((e :: es).length : Int))) = true := decide_eq_true (by show (0 : Int) < ((es.length + 1 : Nat) : Int); omega)
        rw [hdt]
        have hfi := xf_AFirst (W := W) (L := (r, .cells (acl b p1 (e :: es).length c1).toArray 127 (0, 0)) :: (l ++ (wl ++ M))) r p1 c1 e es (Cl.o0 rfl) (hq.rs fun z hz => List.mem_cons_of_mem _ (List.mem_append_left _ hz)) (he2.mono fun z hz => List.mem_cons_of_mem _ (List.mem_append_right _ (List.mem_append_right _ hz))) (by rw [he1, List.length_singleton]; decide)
        rw [he1] at hfi
        focus
          refine xc_region ?_
          refine xo_rd (rd_move rfl) rfl ?_
          refine xo_ef rfl (ef_call rfl (XF.mono (hfi) ?_))
          rintro v L' ⟨q, k, l', rfl, hO, rfl⟩
          refine xo_seg [_] l' _ ?_
          refine xo_rd (rd_move rfl) rfl ?_
          refine xo_rd (rd_extract rfl rfl) rfl ?_
          refine xo_rd (rd_extract rfl rfl) rfl ?_
          refine xo_rd (rd_assign rfl) rfl ?_
          refine xo_rd (rd_assign rfl) rfl ?_
          refine xo_nil ?_
        exact xq_joined (⟨q, k, l'⟩ : FbS) hO rfl (by repeat (first | exact keep_nil | refine keep_cons rfl ?_))
    rintro ⟨qf, kf, lf⟩ hO
    dsimp only at hO ⊢
    refine xc_join (ι := Unit) (fun _ => True) (fun _ => (r, .cells (acl b p1 es.length c1).toArray 127 (0, 0)) :: (lf ++ (l ++ (wl ++ M)))) (fun s => [(0, .int .i64 b), (1, .slice (some ⟨b2, o2, none⟩) n lc), (5, .pointer (some ⟨r, 0, none⟩)), (6, .int .i64 0), (7, .slice wp es.length wc), (8, .int .i64 i), (9, .slice qf (firstB es).length kf), (10, .bool (decide ((0 : Int) < (es.length : Int))))]) ?_ ?_
    · cases es with
      | nil =>
        focus
          refine xc_seq ?_
          refine xc_drawML [0, 0, 2, 4, 9, 16, 32, 96, 128, 384, 640, 1152, 2048, 6144, 10240, 2048, 34816, 67584, 133120, 280576, 526464, 1048736, 2097184] [0, 0, 2, 4, 9, 16, 32, 96, 128, 384, 640, 1152, 2048, 6144, 10240, 2048, 34816, 67584, 133120, 280576, 526464, 1048736, 2097184] (by kernel_rfl) (by kernel_rfl) (by kernel_rfl) ?_
          refine xm_take 0 (m' := 1) rfl (by kernel_rfl) (by first | exact Sb.refl | exact Sb.nil | (repeat (first | exact Sb.nil | exact Sb.refl | exact Sb.app0 | apply Sb.keep | apply Sb.keepApp | apply Sb.cons | apply Sb.app))) (rd_move rfl) rfl (by kernel_rfl) ?_
          refine xm_take 1 (m' := 3) rfl (by kernel_rfl) (by first | exact Sb.refl | exact Sb.nil | (repeat (first | exact Sb.nil | exact Sb.refl | exact Sb.app0 | apply Sb.keep | apply Sb.keepApp | apply Sb.cons | apply Sb.app))) (rd_move rfl) rfl (by kernel_rfl) ?_
          refine xm_take 2 (m' := 7) rfl (by kernel_rfl) (by first | exact Sb.refl | exact Sb.nil | (repeat (first | exact Sb.nil | exact Sb.refl | exact Sb.app0 | apply Sb.keep | apply Sb.keepApp | apply Sb.cons | apply Sb.app))) (rd_len rfl) rfl (by kernel_rfl) ?_
          refine xm_take 3 (m' := 15) rfl (by kernel_rfl) (by first | exact Sb.refl | exact Sb.nil | (repeat (first | exact Sb.nil | exact Sb.refl | exact Sb.app0 | apply Sb.keep | apply Sb.keepApp | apply Sb.cons | apply Sb.app))) (rd_gtr rfl rfl) rfl (by kernel_rfl) ?_
          refine xm_take 4 (m' := 31) rfl (by kernel_rfl) (by first | exact Sb.refl | exact Sb.nil | (repeat (first | exact Sb.nil | exact Sb.refl | exact Sb.app0 | apply Sb.keep | apply Sb.keepApp | apply Sb.cons | apply Sb.app))) (rd_neb rfl rfl) rfl (by kernel_rfl) ?_
          refine xm_take 5 (m' := 63) rfl (by kernel_rfl) (by first | exact Sb.refl | exact Sb.nil | (repeat (first | exact Sb.nil | exact Sb.refl | exact Sb.app0 | apply Sb.keep | apply Sb.keepApp | apply Sb.cons | apply Sb.app))) (rd_move rfl) rfl (by kernel_rfl) ?_
          refine xm_gtake 6 (m' := 127) rfl (by kernel_rfl) (by first | exact Sb.refl | exact Sb.nil | (repeat (first | exact Sb.nil | exact Sb.refl | exact Sb.app0 | apply Sb.keep | apply Sb.keepApp | apply Sb.cons | apply Sb.app))) rfl rfl (rd_move rfl) rfl (by kernel_rfl) ?_
          refine xm_gtake 7 (m' := 255) rfl (by kernel_rfl) (by first | exact Sb.refl | exact Sb.nil | (repeat (first | exact Sb.nil | exact Sb.refl | exact Sb.app0 | apply Sb.keep | apply Sb.keepApp | apply Sb.cons | apply Sb.app))) rfl rfl (rd_move rfl) rfl (by kernel_rfl) ?_
          refine xm_gskip 8 (m' := 511) rfl (by kernel_rfl) (by first | exact Sb.refl | exact Sb.nil | (repeat (first | exact Sb.nil | exact Sb.refl | exact Sb.app0 | apply Sb.keep | apply Sb.keepApp | apply Sb.cons | apply Sb.app))) rfl rfl rfl rfl (by kernel_rfl) ?_
          refine xm_gskip 9 (m' := 1023) rfl (by kernel_rfl) (by first | exact Sb.refl | exact Sb.nil | (repeat (first | exact Sb.nil | exact Sb.refl | exact Sb.app0 | apply Sb.keep | apply Sb.keepApp | apply Sb.cons | apply Sb.app))) rfl rfl rfl rfl (by kernel_rfl) ?_
          refine xm_gskip 10 (m' := 2047) rfl (by kernel_rfl) (by first | exact Sb.refl | exact Sb.nil | (repeat (first | exact Sb.nil | exact Sb.refl | exact Sb.app0 | apply Sb.keep | apply Sb.keepApp | apply Sb.cons | apply Sb.app))) rfl rfl rfl rfl (by kernel_rfl) ?_
          refine xm_gskip 11 (m' := 4095) rfl (by kernel_rfl) (by first | exact Sb.refl | exact Sb.nil | (repeat (first | exact Sb.nil | exact Sb.refl | exact Sb.app0 | apply Sb.keep | apply Sb.keepApp | apply Sb.cons | apply Sb.app))) rfl rfl rfl rfl (by kernel_rfl) ?_
          refine xm_gskipU 12 (m' := 8191) rfl (by kernel_rfl) (by first | exact Sb.refl | exact Sb.nil | (repeat (first | exact Sb.nil | exact Sb.refl | exact Sb.app0 | apply Sb.keep | apply Sb.keepApp | apply Sb.cons | apply Sb.app))) rfl rfl rfl (by kernel_rfl) ?_
          refine xm_gskipU 13 (m' := 16383) rfl (by kernel_rfl) (by first | exact Sb.refl | exact Sb.nil | (repeat (first | exact Sb.nil | exact Sb.refl | exact Sb.app0 | apply Sb.keep | apply Sb.keepApp | apply Sb.cons | apply Sb.app))) rfl rfl rfl (by kernel_rfl) ?_
          refine xm_gskipU 14 (m' := 32767) rfl (by kernel_rfl) (by first | exact Sb.refl | exact Sb.nil | (repeat (first | exact Sb.nil | exact Sb.refl | exact Sb.app0 | apply Sb.keep | apply Sb.keepApp | apply Sb.cons | apply Sb.app))) rfl rfl rfl (by kernel_rfl) ?_
          refine xm_gskipU 15 (m' := 65535) rfl (by kernel_rfl) (by first | exact Sb.refl | exact Sb.nil | (repeat (first | exact Sb.nil | exact Sb.refl | exact Sb.app0 | apply Sb.keep | apply Sb.keepApp | apply Sb.cons | apply Sb.app))) rfl rfl rfl (by kernel_rfl) ?_
          refine xm_gskipU 16 (m' := 131071) rfl (by kernel_rfl) (by first | exact Sb.refl | exact Sb.nil | (repeat (first | exact Sb.nil | exact Sb.refl | exact Sb.app0 | apply Sb.keep | apply Sb.keepApp | apply Sb.cons | apply Sb.app))) rfl rfl rfl (by kernel_rfl) ?_
          refine xm_gskipU 17 (m' := 262143) rfl (by kernel_rfl) (by first | exact Sb.refl | exact Sb.nil | (repeat (first | exact Sb.nil | exact Sb.refl | exact Sb.app0 | apply Sb.keep | apply Sb.keepApp | apply Sb.cons | apply Sb.app))) rfl rfl rfl (by kernel_rfl) ?_
          refine xm_gskipU 18 (m' := 524287) rfl (by kernel_rfl) (by first | exact Sb.refl | exact Sb.nil | (repeat (first | exact Sb.nil | exact Sb.refl | exact Sb.app0 | apply Sb.keep | apply Sb.keepApp | apply Sb.cons | apply Sb.app))) rfl rfl rfl (by kernel_rfl) ?_
          refine xm_gskipU 19 (m' := 1048575) rfl (by kernel_rfl) (by first | exact Sb.refl | exact Sb.nil | (repeat (first | exact Sb.nil | exact Sb.refl | exact Sb.app0 | apply Sb.keep | apply Sb.keepApp | apply Sb.cons | apply Sb.app))) rfl rfl rfl (by kernel_rfl) ?_
          refine xm_gskip 20 (m' := 2097151) rfl (by kernel_rfl) (by first | exact Sb.refl | exact Sb.nil | (repeat (first | exact Sb.nil | exact Sb.refl | exact Sb.app0 | apply Sb.keep | apply Sb.keepApp | apply Sb.cons | apply Sb.app))) rfl rfl rfl rfl (by kernel_rfl) ?_
          refine xm_gtake 21 (m' := 4194303) rfl (by kernel_rfl) (by first | exact Sb.refl | exact Sb.nil | (repeat (first | exact Sb.nil | exact Sb.refl | exact Sb.app0 | apply Sb.keep | apply Sb.keepApp | apply Sb.cons | apply Sb.app))) rfl rfl (rd_pickf rfl rfl) rfl (by kernel_rfl) ?_
          refine xm_take 22 (m' := 8388607) rfl (by kernel_rfl) (by first | exact Sb.refl | exact Sb.nil | (repeat (first | exact Sb.nil | exact Sb.refl | exact Sb.app0 | apply Sb.keep | apply Sb.keepApp | apply Sb.cons | apply Sb.app))) (rd_pickf rfl rfl) rfl (by kernel_rfl) ?_
          refine xm_done (by kernel_rfl) ?_
          refine xq_seq ?_
          refine xc_condf rfl ?_
          refine xc_skip ?_
        all_goals exact xq_joined () trivial rfl (by repeat (first | exact keep_nil | refine keep_cons rfl ?_))
      | cons e es =>
        have hdt : (decide ((0 : Int) < ((e :: es).length : Int))) = true := decide_eq_true (by show (0 : Int) < ((es.length + 1 : Nat) : Int); omega)
        rw [hdt]
        have hRf : Rs W ((r, .cells (acl b p1 (e :: es).length c1).toArray 127 (0, 0)) :: (lf ++ (l ++ (wl ++ M)))) qf (ints .u8 [e.s % 256]) := hO.rs (by intro z hz; simp [hz])
        have hRw : Rs W ((r, .cells (acl b p1 (e :: es).length c1).toArray 127 (0, 0)) :: (lf ++ (l ++ (wl ++ M)))) wp (ints .u16 (e.s :: es.map Pk.s)) := hw.rs (by intro z hz; simp [hz])
        obtain ⟨bf, of, hqf, hcf⟩ := hRf.int (i := 0) (Nat.succ_pos _)
        obtain ⟨bw, ow, hqw, hcw⟩ := hRw.int (i := 0) (Nat.succ_pos _)
        subst hqf hqw
        have hcf' : Cl W ((r, .cells (acl b p1 (e :: es).length c1).toArray 127 (0, 0)) :: (lf ++ (l ++ (wl ++ M)))) bf (of + (0 : Int).toNat * 1) (.int .u8 (e.s % 256)) := hcf
        have hcw' : Cl W ((r, .cells (acl b p1 (e :: es).length c1).toArray 127 (0, 0)) :: (lf ++ (l ++ (wl ++ M)))) bw (ow + (0 : Int).toNat * 1) (.int .u16 e.s) := hcw
        show XC _ _ _ _ _ ((r, .cells (acl b p1 (es.length + 1) c1).toArray 127 (0, 0)) :: (lf ++ (l ++ (wl ++ M)))) [(0, .int .i64 b), (1, .slice (some ⟨b2, o2, none⟩) n lc), (5, .pointer (some ⟨r, 0, none⟩)), (6, .int .i64 0), (7, .slice (some ⟨bw, ow, none⟩) (es.length + 1) wc), (8, .int .i64 i), (9, .slice (some ⟨bf, of, none⟩) 1 kf), (10, .bool true)]
        focus
          refine xc_seq ?_
          refine xc_drawML [0, 0, 2, 4, 9, 16, 32, 96, 128, 384, 640, 1152, 2048, 6144, 10240, 2048, 34816, 67584, 133120, 280576, 526464, 1048736, 2097184] [0, 0, 2, 4, 9, 16, 32, 96, 128, 384, 640, 1152, 2048, 6144, 10240, 2048, 34816, 67584, 133120, 280576, 526464, 1048736, 2097184] (by kernel_rfl) (by kernel_rfl) (by kernel_rfl) ?_
          refine xm_take 0 (m' := 1) rfl (by kernel_rfl) (by first | exact Sb.refl | exact Sb.nil | (repeat (first | exact Sb.nil | exact Sb.refl | exact Sb.app0 | apply Sb.keep | apply Sb.keepApp | apply Sb.cons | apply Sb.app))) (rd_move rfl) rfl (by kernel_rfl) ?_
          refine xm_take 1 (m' := 3) rfl (by kernel_rfl) (by first | exact Sb.refl | exact Sb.nil | (repeat (first | exact Sb.nil | exact Sb.refl | exact Sb.app0 | apply Sb.keep | apply Sb.keepApp | apply Sb.cons | apply Sb.app))) (rd_move rfl) rfl (by kernel_rfl) ?_
          refine xm_take 2 (m' := 7) rfl (by kernel_rfl) (by first | exact Sb.refl | exact Sb.nil | (repeat (first | exact Sb.nil | exact Sb.refl | exact Sb.app0 | apply Sb.keep | apply Sb.keepApp | apply Sb.cons | apply Sb.app))) (rd_len rfl) rfl (by kernel_rfl) ?_
          refine xm_take 3 (m' := 15) rfl (by kernel_rfl) (by first | exact Sb.refl | exact Sb.nil | (repeat (first | exact Sb.nil | exact Sb.refl | exact Sb.app0 | apply Sb.keep | apply Sb.keepApp | apply Sb.cons | apply Sb.app))) (rd_cast (v' := .bool true) (rd_gtr rfl rfl) (congrArg Value.bool (decide_eq_true (by show (0 : Int) < ((es.length + 1 : Nat) : Int); omega)))) rfl (by kernel_rfl) ?_
          refine xm_take 4 (m' := 31) rfl (by kernel_rfl) (by first | exact Sb.refl | exact Sb.nil | (repeat (first | exact Sb.nil | exact Sb.refl | exact Sb.app0 | apply Sb.keep | apply Sb.keepApp | apply Sb.cons | apply Sb.app))) (rd_cast (v' := .bool false) (rd_neb rfl rfl) (congrArg Value.bool (by first | rfl | exact bnot_self _))) rfl (by kernel_rfl) ?_
          refine xm_take 5 (m' := 63) rfl (by kernel_rfl) (by first | exact Sb.refl | exact Sb.nil | (repeat (first | exact Sb.nil | exact Sb.refl | exact Sb.app0 | apply Sb.keep | apply Sb.keepApp | apply Sb.cons | apply Sb.app))) (rd_move rfl) rfl (by kernel_rfl) ?_
          refine xm_gtake 6 (m' := 127) rfl (by kernel_rfl) (by first | exact Sb.refl | exact Sb.nil | (repeat (first | exact Sb.nil | exact Sb.refl | exact Sb.app0 | apply Sb.keep | apply Sb.keepApp | apply Sb.cons | apply Sb.app))) rfl rfl (rd_move rfl) rfl (by kernel_rfl) ?_
          refine xm_gtake 7 (m' := 255) rfl (by kernel_rfl) (by first | exact Sb.refl | exact Sb.nil | (repeat (first | exact Sb.nil | exact Sb.refl | exact Sb.app0 | apply Sb.keep | apply Sb.keepApp | apply Sb.cons | apply Sb.app))) rfl rfl (rd_move rfl) rfl (by kernel_rfl) ?_
          refine xm_gtake 8 (m' := 511) rfl (by kernel_rfl) (by first | exact Sb.refl | exact Sb.nil | (repeat (first | exact Sb.nil | exact Sb.refl | exact Sb.app0 | apply Sb.keep | apply Sb.keepApp | apply Sb.cons | apply Sb.app))) rfl rfl (rd_move rfl) rfl (by kernel_rfl) ?_
          refine xm_gtake 9 (m' := 1023) rfl (by kernel_rfl) (by first | exact Sb.refl | exact Sb.nil | (repeat (first | exact Sb.nil | exact Sb.refl | exact Sb.app0 | apply Sb.keep | apply Sb.keepApp | apply Sb.cons | apply Sb.app))) rfl rfl (rd_len rfl) rfl (by kernel_rfl) ?_
          refine xm_gtake 10 (m' := 2047) rfl (by kernel_rfl) (by first | exact Sb.refl | exact Sb.nil | (repeat (first | exact Sb.nil | exact Sb.refl | exact Sb.app0 | apply Sb.keep | apply Sb.keepApp | apply Sb.cons | apply Sb.app))) rfl rfl (rd_neq rfl rfl) rfl (by kernel_rfl) ?_
          refine xm_gtake 11 (m' := 4095) rfl (by kernel_rfl) (by first | exact Sb.refl | exact Sb.nil | (repeat (first | exact Sb.nil | exact Sb.refl | exact Sb.app0 | apply Sb.keep | apply Sb.keepApp | apply Sb.cons | apply Sb.app))) rfl rfl (rd_move rfl) rfl (by kernel_rfl) ?_
          refine xm_gtake 12 (m' := 8191) rfl (by kernel_rfl) (by first | exact Sb.refl | exact Sb.nil | (repeat (first | exact Sb.nil | exact Sb.refl | exact Sb.app0 | apply Sb.keep | apply Sb.keepApp | apply Sb.cons | apply Sb.app))) rfl rfl (rd_move rfl) rfl (by kernel_rfl) ?_
          refine xm_gtake 13 (m' := 16383) rfl (by kernel_rfl) (by first | exact Sb.refl | exact Sb.nil | (repeat (first | exact Sb.nil | exact Sb.refl | exact Sb.app0 | apply Sb.keep | apply Sb.keepApp | apply Sb.cons | apply Sb.app))) rfl rfl (rd_indexAddr rfl rfl (by omega) (by omega)) rfl (by kernel_rfl) ?_
          refine xm_gtake 14 (m' := 32767) rfl (by kernel_rfl) (by first | exact Sb.refl | exact Sb.nil | (repeat (first | exact Sb.nil | exact Sb.refl | exact Sb.app0 | apply Sb.keep | apply Sb.keepApp | apply Sb.cons | apply Sb.app))) rfl rfl (rd_load1 rfl hcf') rfl (by kernel_rfl) ?_
          refine xm_gtake 15 (m' := 65535) rfl (by kernel_rfl) (by first | exact Sb.refl | exact Sb.nil | (repeat (first | exact Sb.nil | exact Sb.refl | exact Sb.app0 | apply Sb.keep | apply Sb.keepApp | apply Sb.cons | apply Sb.app))) rfl rfl (rd_move rfl) rfl (by kernel_rfl) ?_
          refine xm_gtake 16 (m' := 131071) rfl (by kernel_rfl) (by first | exact Sb.refl | exact Sb.nil | (repeat (first | exact Sb.nil | exact Sb.refl | exact Sb.app0 | apply Sb.keep | apply Sb.keepApp | apply Sb.cons | apply Sb.app))) rfl rfl (rd_indexAddr rfl rfl (by omega) (by omega)) rfl (by kernel_rfl) ?_
          refine xm_gtake 17 (m' := 262143) rfl (by kernel_rfl) (by first | exact Sb.refl | exact Sb.nil | (repeat (first | exact Sb.nil | exact Sb.refl | exact Sb.app0 | apply Sb.keep | apply Sb.keepApp | apply Sb.cons | apply Sb.app))) rfl rfl (rd_load1 rfl hcw') rfl (by kernel_rfl) ?_
          refine xm_gtake 18 (m' := 524287) rfl (by kernel_rfl) (by first | exact Sb.refl | exact Sb.nil | (repeat (first | exact Sb.nil | exact Sb.refl | exact Sb.app0 | apply Sb.keep | apply Sb.keepApp | apply Sb.cons | apply Sb.app))) rfl rfl (rd_cast (v' := .int .u8 (e.s % 256)) (rd_conv rfl) rfl) rfl (by kernel_rfl) ?_
          refine xm_gtake 19 (m' := 1048575) rfl (by kernel_rfl) (by first | exact Sb.refl | exact Sb.nil | (repeat (first | exact Sb.nil | exact Sb.refl | exact Sb.app0 | apply Sb.keep | apply Sb.keepApp | apply Sb.cons | apply Sb.app))) rfl rfl (rd_neq rfl rfl) rfl (by kernel_rfl) ?_
          refine xm_gtake 20 (m' := 2097151) rfl (by kernel_rfl) (by first | exact Sb.refl | exact Sb.nil | (repeat (first | exact Sb.nil | exact Sb.refl | exact Sb.app0 | apply Sb.keep | apply Sb.keepApp | apply Sb.cons | apply Sb.app))) rfl rfl (rd_pickf rfl rfl) rfl (by kernel_rfl) ?_
          refine xm_gtake 21 (m' := 4194303) rfl (by kernel_rfl) (by first | exact Sb.refl | exact Sb.nil | (repeat (first | exact Sb.nil | exact Sb.refl | exact Sb.app0 | apply Sb.keep | apply Sb.keepApp | apply Sb.cons | apply Sb.app))) rfl rfl (rd_pickt rfl rfl) rfl (by kernel_rfl) ?_
          refine xm_take 22 (m' := 8388607) rfl (by kernel_rfl) (by first | exact Sb.refl | exact Sb.nil | (repeat (first | exact Sb.nil | exact Sb.refl | exact Sb.app0 | apply Sb.keep | apply Sb.keepApp | apply Sb.cons | apply Sb.app))) (rd_pickf rfl rfl) rfl (by kernel_rfl) ?_
          refine xm_done (by kernel_rfl) ?_
          refine xq_seq ?_
          refine xc_ndec rfl (fun h => absurd rfl h) (fun _ => ?_)
          refine xc_skip ?_
        exact xq_joined () trivial rfl (by repeat (first | exact keep_nil | refine keep_cons rfl ?_))
    rintro ⟨⟩ _
    focus
      refine xc_seq ?_
      refine xc_region ?_
      refine xo_rd (rd_move rfl) rfl ?_
      refine xo_ef rfl (ef_call rfl (XF.mono ((xf_spoil _ _ _ lf hO (by cases es <;> simp [firstB])).perm (seg_perm [_] lf (l ++ (wl ++ M)))) ?_))
      rintro v L' ⟨rfl, xs', l', hO', rfl⟩
      refine xo_sub (List.sublist_append_right l' _) ?_
      refine xo_nil ?_
      refine xq_seq ?_
    refine xc_join (ι := AgS) (fun s => s.i = i + 1 ∧ s.Ok W) (fun s => agL b r s) (fun s => [(0, .int .i64 b), (1, .slice (some ⟨b2, o2, none⟩) n lc), (5, .pointer (some ⟨r, 0, none⟩)), (6, .int .i64 0), (7, .slice s.wp s.es.length s.wc), (8, .int .i64 i)]) ?_ ?_
    · by_cases h9 : x.tmod 10 = 9
      · cases es with
        | nil =>
          rw [show (decide ((0 : Int) < (([] : List Pk).length : Int))) = false from rfl]
          focus
            refine xc_seq ?_
            refine xc_region ?_
            refine xo_rd (rd_move rfl) rfl ?_
            refine xo_rd (rd_move rfl) rfl ?_
            refine xo_rd (rd_indexAddr rfl rfl (by omega) (by omega)) rfl ?_
            refine xo_rd (rd_load1 rfl (hcx _)) rfl ?_
            refine xo_rd (rd_rem rfl rfl (by decide)) rfl ?_
            refine xo_rd (rd_eql rfl rfl) rfl ?_
            refine xo_nil ?_
            refine xq_seq ?_
            refine xc_dec rfl (fun hz1 => ?_) (fun hz1 => (by exfalso; omega))
            refine xc_seq ?_
            refine xc_region ?_
            refine xo_rd (rd_move rfl) rfl ?_
            refine xo_ef rfl (ef_call rfl (XF.mono (xf_AShift0 r p1 c1 (Cl.o0 rfl)) ?_))
            rintro v L' ⟨rfl, rfl⟩
            refine xo_rd (rd_move rfl) rfl ?_
            refine xo_rd (rd_extract rfl rfl) rfl ?_
            refine xo_rd (rd_extract rfl rfl) rfl ?_
            refine xo_rd (rd_assign rfl) rfl ?_
            refine xo_rd (rd_assign rfl) rfl ?_
            refine xo_nil ?_
            refine xq_seq ?_
            refine xc_seq ?_
            refine xc_seq ?_
            refine xc_drawML [0, 0, 3, 4, 8, 24, 32, 96, 160, 288, 512, 1536, 2560, 512, 8704, 16896, 33280, 70144, 131616, 262184, 524296] [0, 0, 3, 4, 8, 24, 32, 96, 160, 288, 512, 1536, 2560, 512, 8704, 16896, 33280, 70144, 131616, 262184, 524296] (by kernel_rfl) (by kernel_rfl) (by kernel_rfl) ?_
            refine xm_take 0 (m' := 1) rfl (by kernel_rfl) (by first | exact Sb.refl | exact Sb.nil | (repeat (first | exact Sb.nil | exact Sb.refl | exact Sb.app0 | apply Sb.keep | apply Sb.keepApp | apply Sb.cons | apply Sb.app))) (rd_move rfl) rfl (by kernel_rfl) ?_
            refine xm_take 1 (m' := 3) rfl (by kernel_rfl) (by first | exact Sb.refl | exact Sb.nil | (repeat (first | exact Sb.nil | exact Sb.refl | exact Sb.app0 | apply Sb.keep | apply Sb.keepApp | apply Sb.cons | apply Sb.app))) (rd_move rfl) rfl (by kernel_rfl) ?_
            refine xm_take 2 (m' := 7) rfl (by kernel_rfl) (by first | exact Sb.refl | exact Sb.nil | (repeat (first | exact Sb.nil | exact Sb.refl | exact Sb.app0 | apply Sb.keep | apply Sb.keepApp | apply Sb.cons | apply Sb.app))) (rd_cast (v' := .bool false) (rd_neb rfl rfl) (congrArg Value.bool (by first | rfl | exact bnot_self _))) rfl (by kernel_rfl) ?_
            refine xm_take 3 (m' := 15) rfl (by kernel_rfl) (by first | exact Sb.refl | exact Sb.nil | (repeat (first | exact Sb.nil | exact Sb.refl | exact Sb.app0 | apply Sb.keep | apply Sb.keepApp | apply Sb.cons | apply Sb.app))) (rd_move rfl) rfl (by kernel_rfl) ?_
            refine xm_gtake 4 (m' := 31) rfl (by kernel_rfl) (by first | exact Sb.refl | exact Sb.nil | (repeat (first | exact Sb.nil | exact Sb.refl | exact Sb.app0 | apply Sb.keep | apply Sb.keepApp | apply Sb.cons | apply Sb.app))) rfl rfl (rd_move rfl) rfl (by kernel_rfl) ?_
            refine xm_gtake 5 (m' := 63) rfl (by kernel_rfl) (by first | exact Sb.refl | exact Sb.nil | (repeat (first | exact Sb.nil | exact Sb.refl | exact Sb.app0 | apply Sb.keep | apply Sb.keepApp | apply Sb.cons | apply Sb.app))) rfl rfl (rd_move rfl) rfl (by kernel_rfl) ?_
            refine xm_gskip 6 (m' := 127) rfl (by kernel_rfl) (by first | exact Sb.refl | exact Sb.nil | (repeat (first | exact Sb.nil | exact Sb.refl | exact Sb.app0 | apply Sb.keep | apply Sb.keepApp | apply Sb.cons | apply Sb.app))) rfl rfl rfl rfl (by kernel_rfl) ?_
            refine xm_gskip 7 (m' := 255) rfl (by kernel_rfl) (by first | exact Sb.refl | exact Sb.nil | (repeat (first | exact Sb.nil | exact Sb.refl | exact Sb.app0 | apply Sb.keep | apply Sb.keepApp | apply Sb.cons | apply Sb.app))) rfl rfl rfl rfl (by kernel_rfl) ?_
            refine xm_gskip 8 (m' := 511) rfl (by kernel_rfl) (by first | exact Sb.refl | exact Sb.nil | (repeat (first | exact Sb.nil | exact Sb.refl | exact Sb.app0 | apply Sb.keep | apply Sb.keepApp | apply Sb.cons | apply Sb.app))) rfl rfl rfl rfl (by kernel_rfl) ?_
            refine xm_gskip 9 (m' := 1023) rfl (by kernel_rfl) (by first | exact Sb.refl | exact Sb.nil | (repeat (first | exact Sb.nil | exact Sb.refl | exact Sb.app0 | apply Sb.keep | apply Sb.keepApp | apply Sb.cons | apply Sb.app))) rfl rfl rfl rfl (by kernel_rfl) ?_
            refine xm_gskipU 10 (m' := 2047) rfl (by kernel_rfl) (by first | exact Sb.refl | exact Sb.nil | (repeat (first | exact Sb.nil | exact Sb.refl | exact Sb.app0 | apply Sb.keep | apply Sb.keepApp | apply Sb.cons | apply Sb.app))) rfl rfl rfl (by kernel_rfl) ?_
            refine xm_gskipU 11 (m' := 4095) rfl (by kernel_rfl) (by first | exact Sb.refl | exact Sb.nil | (repeat (first | exact Sb.nil | exact Sb.refl | exact Sb.app0 | apply Sb.keep | apply Sb.keepApp | apply Sb.cons | apply Sb.app))) rfl rfl rfl (by kernel_rfl) ?_
            refine xm_gskipU 12 (m' := 8191) rfl (by kernel_rfl) (by first | exact Sb.refl | exact Sb.nil | (repeat (first | exact Sb.nil | exact Sb.refl | exact Sb.app0 | apply Sb.keep | apply Sb.keepApp | apply Sb.cons | apply Sb.app))) rfl rfl rfl (by kernel_rfl) ?_
            refine xm_gskipU 13 (m' := 16383) rfl (by kernel_rfl) (by first | exact Sb.refl | exact Sb.nil | (repeat (first | exact Sb.nil | exact Sb.refl | exact Sb.app0 | apply Sb.keep | apply Sb.keepApp | apply Sb.cons | apply Sb.app))) rfl rfl rfl (by kernel_rfl) ?_
            refine xm_gskipU 14 (m' := 32767) rfl (by kernel_rfl) (by first | exact Sb.refl | exact Sb.nil | (repeat (first | exact Sb.nil | exact Sb.refl | exact Sb.app0 | apply Sb.keep | apply Sb.keepApp | apply Sb.cons | apply Sb.app))) rfl rfl rfl (by kernel_rfl) ?_
            refine xm_gskipU 15 (m' := 65535) rfl (by kernel_rfl) (by first | exact Sb.refl | exact Sb.nil | (repeat (first | exact Sb.nil | exact Sb.refl | exact Sb.app0 | apply Sb.keep | apply Sb.keepApp | apply Sb.cons | apply Sb.app))) rfl rfl rfl (by kernel_rfl) ?_
            refine xm_gskipU 16 (m' := 131071) rfl (by kernel_rfl) (by first | exact Sb.refl | exact Sb.nil | (repeat (first | exact Sb.nil | exact Sb.refl | exact Sb.app0 | apply Sb.keep | apply Sb.keepApp | apply Sb.cons | apply Sb.app))) rfl rfl rfl (by kernel_rfl) ?_
            refine xm_gskipU 17 (m' := 262143) rfl (by kernel_rfl) (by first | exact Sb.refl | exact Sb.nil | (repeat (first | exact Sb.nil | exact Sb.refl | exact Sb.app0 | apply Sb.keep | apply Sb.keepApp | apply Sb.cons | apply Sb.app))) rfl rfl rfl (by kernel_rfl) ?_
            refine xm_gskip 18 (m' := 524287) rfl (by kernel_rfl) (by first | exact Sb.refl | exact Sb.nil | (repeat (first | exact Sb.nil | exact Sb.refl | exact Sb.app0 | apply Sb.keep | apply Sb.keepApp | apply Sb.cons | apply Sb.app))) rfl rfl rfl rfl (by kernel_rfl) ?_
            refine xm_gtake 19 (m' := 1048575) rfl (by kernel_rfl) (by first | exact Sb.refl | exact Sb.nil | (repeat (first | exact Sb.nil | exact Sb.refl | exact Sb.app0 | apply Sb.keep | apply Sb.keepApp | apply Sb.cons | apply Sb.app))) rfl rfl (rd_pickf rfl rfl) rfl (by kernel_rfl) ?_
            refine xm_take 20 (m' := 2097151) rfl (by kernel_rfl) (by first | exact Sb.refl | exact Sb.nil | (repeat (first | exact Sb.nil | exact Sb.refl | exact Sb.app0 | apply Sb.keep | apply Sb.keepApp | apply Sb.cons | apply Sb.app))) (rd_pickf rfl rfl) rfl (by kernel_rfl) ?_
            refine xm_done (by kernel_rfl) ?_
            refine xq_seq ?_
            refine xc_condf rfl ?_
            refine xc_skip ?_
            refine xq_seq ?_
            refine xc_seq ?_
            refine xc_region ?_
            refine xo_rd (rd_move rfl) rfl ?_
            refine xo_nil ?_
            refine xq_seq ?_
            refine xc_condf rfl ?_
            refine xc_skip ?_
          all_goals exact xq_joined (⟨i + 1, [], p1, c1, l, wp, wc, wl, M⟩ : AgS) ⟨rfl, ⟨hq, hw, hpk, Nat.zero_le _⟩⟩ rfl (by repeat (first | exact keep_nil | refine keep_cons rfl ?_))
        | cons e es =>
          obtain ⟨he1, he2⟩ := hpk e (List.mem_cons_self ..)
          have hdt : (decide ((0 : Int) < ((e :: es).length : Int))) = true := decide_eq_true (by show (0 : Int) < ((es.length + 1 : Nat) : Int); omega)
          rw [hdt]
          have hsh := xf_AShift (W := W) (M := wl ++ M) r b p1 c1 e es l hq (he2.mono fun z hz => List.mem_append_right _ hz) (by rw [he1, List.length_singleton]; decide)
          rw [he1] at hsh
          focus
            refine xc_seq ?_
            refine xc_region ?_
            refine xo_rd (rd_move rfl) rfl ?_
            refine xo_rd (rd_move rfl) rfl ?_
            refine xo_rd (rd_indexAddr rfl rfl (by omega) (by omega)) rfl ?_
            refine xo_rd (rd_load1 rfl (hcx _)) rfl ?_
            refine xo_rd (rd_rem rfl rfl (by decide)) rfl ?_
            refine xo_rd (rd_eql rfl rfl) rfl ?_
            refine xo_nil ?_
            refine xq_seq ?_
            refine xc_dec rfl (fun hz1 => ?_) (fun hz1 => (by exfalso; omega))
            refine xc_seq ?_
            refine xc_region ?_
            refine xo_rd (rd_move rfl) rfl ?_
            refine xo_ef rfl (ef_call rfl (XF.mono (hsh) ?_))
            rintro v L' ⟨q, k, l', p2, c2, rfl, hO', hq2, rfl⟩
            refine xo_rd (rd_move rfl) rfl ?_
            refine xo_rd (rd_extract rfl rfl) rfl ?_
            refine xo_rd (rd_extract rfl rfl) rfl ?_
            refine xo_rd (rd_assign rfl) rfl ?_
            refine xo_rd (rd_assign rfl) rfl ?_
            refine xo_nil ?_
            refine xq_seq ?_
          have hRf : Rs W ((r, .cells (acl b p2 es.length c2).toArray 127 (0, 0)) :: (l' ++ (l ++ (wl ++ M)))) q (ints .u8 [e.s % 256]) := hO'.rs (by intro z hz; simp [hz])
          have hRw : Rs W ((r, .cells (acl b p2 es.length c2).toArray 127 (0, 0)) :: (l' ++ (l ++ (wl ++ M)))) wp (ints .u16 (e.s :: es.map Pk.s)) := hw.rs (by intro z hz; simp [hz])
          obtain ⟨bf, of, hqf, hcf⟩ := hRf.int (i := 0) (Nat.succ_pos _)
          obtain ⟨bw, ow, hqw, hcw⟩ := hRw.int (i := 0) (Nat.succ_pos _)
          subst hqf hqw
          have hcf' : Cl W ((r, .cells (acl b p2 es.length c2).toArray 127 (0, 0)) :: (l' ++ (l ++ (wl ++ M)))) bf (of + (0 : Int).toNat * 1) (.int .u8 (e.s % 256)) := hcf
          have hcw' : Cl W ((r, .cells (acl b p2 es.length c2).toArray 127 (0, 0)) :: (l' ++ (l ++ (wl ++ M)))) bw (ow + (0 : Int).toNat * 1) (.int .u16 e.s) := hcw
          refine xc_keep (E' := [(0, .int .i64 b), (1, .slice (some ⟨b2, o2, none⟩) n lc), (5, .pointer (some ⟨r, 0, none⟩)), (6, .int .i64 0), (7, .slice (some ⟨bw, ow, none⟩) (es.length + 1) wc), (8, .int .i64 i), (10, .bool true), (11, .slice (some ⟨bf, of, none⟩) 1 k), (12, .bool true)]) ?_ (by repeat (first | exact keep_nil | refine keep_cons rfl ?_))
          focus
            refine xc_seq ?_
            refine xc_seq ?_
            refine xc_drawML [0, 0, 3, 4, 8, 24, 32, 96, 160, 288, 512, 1536, 2560, 512, 8704, 16896, 33280, 70144, 131616, 262184, 524296] [0, 0, 3, 4, 8, 24, 32, 96, 160, 288, 512, 1536, 2560, 512, 8704, 16896, 33280, 70144, 131616, 262184, 524296] (by kernel_rfl) (by kernel_rfl) (by kernel_rfl) ?_
            refine xm_take 0 (m' := 1) rfl (by kernel_rfl) (by first | exact Sb.refl | exact Sb.nil | (repeat (first | exact Sb.nil | exact Sb.refl | exact Sb.app0 | apply Sb.keep | apply Sb.keepApp | apply Sb.cons | apply Sb.app))) (rd_move rfl) rfl (by kernel_rfl) ?_
            refine xm_take 1 (m' := 3) rfl (by kernel_rfl) (by first | exact Sb.refl | exact Sb.nil | (repeat (first | exact Sb.nil | exact Sb.refl | exact Sb.app0 | apply Sb.keep | apply Sb.keepApp | apply Sb.cons | apply Sb.app))) (rd_move rfl) rfl (by kernel_rfl) ?_
            refine xm_take 2 (m' := 7) rfl (by kernel_rfl) (by first | exact Sb.refl | exact Sb.nil | (repeat (first | exact Sb.nil | exact Sb.refl | exact Sb.app0 | apply Sb.keep | apply Sb.keepApp | apply Sb.cons | apply Sb.app))) (rd_cast (v' := .bool false) (rd_neb rfl rfl) (congrArg Value.bool (by first | rfl | exact bnot_self _))) rfl (by kernel_rfl) ?_
            refine xm_take 3 (m' := 15) rfl (by kernel_rfl) (by first | exact Sb.refl | exact Sb.nil | (repeat (first | exact Sb.nil | exact Sb.refl | exact Sb.app0 | apply Sb.keep | apply Sb.keepApp | apply Sb.cons | apply Sb.app))) (rd_move rfl) rfl (by kernel_rfl) ?_
            refine xm_gtake 4 (m' := 31) rfl (by kernel_rfl) (by first | exact Sb.refl | exact Sb.nil | (repeat (first | exact Sb.nil | exact Sb.refl | exact Sb.app0 | apply Sb.keep | apply Sb.keepApp | apply Sb.cons | apply Sb.app))) rfl rfl (rd_move rfl) rfl (by kernel_rfl) ?_
            refine xm_gtake 5 (m' := 63) rfl (by kernel_rfl) (by first | exact Sb.refl | exact Sb.nil | (repeat (first | exact Sb.nil | exact Sb.refl | exact Sb.app0 | apply Sb.keep | apply Sb.keepApp | apply Sb.cons | apply Sb.app))) rfl rfl (rd_move rfl) rfl (by kernel_rfl) ?_
            refine xm_gtake 6 (m' := 127) rfl (by kernel_rfl) (by first | exact Sb.refl | exact Sb.nil | (repeat (first | exact Sb.nil | exact Sb.refl | exact Sb.app0 | apply Sb.keep | apply Sb.keepApp | apply Sb.cons | apply Sb.app))) rfl rfl (rd_move rfl) rfl (by kernel_rfl) ?_
            refine xm_gtake 7 (m' := 255) rfl (by kernel_rfl) (by first | exact Sb.refl | exact Sb.nil | (repeat (first | exact Sb.nil | exact Sb.refl | exact Sb.app0 | apply Sb.keep | apply Sb.keepApp | apply Sb.cons | apply Sb.app))) rfl rfl (rd_len rfl) rfl (by kernel_rfl) ?_
            refine xm_gtake 8 (m' := 511) rfl (by kernel_rfl) (by first | exact Sb.refl | exact Sb.nil | (repeat (first | exact Sb.nil | exact Sb.refl | exact Sb.app0 | apply Sb.keep | apply Sb.keepApp | apply Sb.cons | apply Sb.app))) rfl rfl (rd_neq rfl rfl) rfl (by kernel_rfl) ?_
            refine xm_gtake 9 (m' := 1023) rfl (by kernel_rfl) (by first | exact Sb.refl | exact Sb.nil | (repeat (first | exact Sb.nil | exact Sb.refl | exact Sb.app0 | apply Sb.keep | apply Sb.keepApp | apply Sb.cons | apply Sb.app))) rfl rfl (rd_move rfl) rfl (by kernel_rfl) ?_
            refine xm_gtake 10 (m' := 2047) rfl (by kernel_rfl) (by first | exact Sb.refl | exact Sb.nil | (repeat (first | exact Sb.nil | exact Sb.refl | exact Sb.app0 | apply Sb.keep | apply Sb.keepApp | apply Sb.cons | apply Sb.app))) rfl rfl (rd_move rfl) rfl (by kernel_rfl) ?_
            refine xm_gtake 11 (m' := 4095) rfl (by kernel_rfl) (by first | exact Sb.refl | exact Sb.nil | (repeat (first | exact Sb.nil | exact Sb.refl | exact Sb.app0 | apply Sb.keep | apply Sb.keepApp | apply Sb.cons | apply Sb.app))) rfl rfl (rd_indexAddr rfl rfl (by omega) (by omega)) rfl (by kernel_rfl) ?_
            refine xm_gtake 12 (m' := 8191) rfl (by kernel_rfl) (by first | exact Sb.refl | exact Sb.nil | (repeat (first | exact Sb.nil | exact Sb.refl | exact Sb.app0 | apply Sb.keep | apply Sb.keepApp | apply Sb.cons | apply Sb.app))) rfl rfl (rd_load1 rfl hcf') rfl (by kernel_rfl) ?_
            refine xm_gtake 13 (m' := 16383) rfl (by kernel_rfl) (by first | exact Sb.refl | exact Sb.nil | (repeat (first | exact Sb.nil | exact Sb.refl | exact Sb.app0 | apply Sb.keep | apply Sb.keepApp | apply Sb.cons | apply Sb.app))) rfl rfl (rd_move rfl) rfl (by kernel_rfl) ?_
            refine xm_gtake 14 (m' := 32767) rfl (by kernel_rfl) (by first | exact Sb.refl | exact Sb.nil | (repeat (first | exact Sb.nil | exact Sb.refl | exact Sb.app0 | apply Sb.keep | apply Sb.keepApp | apply Sb.cons | apply Sb.app))) rfl rfl (rd_indexAddr rfl rfl (by omega) (by omega)) rfl (by kernel_rfl) ?_
            refine xm_gtake 15 (m' := 65535) rfl (by kernel_rfl) (by first | exact Sb.refl | exact Sb.nil | (repeat (first | exact Sb.nil | exact Sb.refl | exact Sb.app0 | apply Sb.keep | apply Sb.keepApp | apply Sb.cons | apply Sb.app))) rfl rfl (rd_load1 rfl hcw') rfl (by kernel_rfl) ?_
            refine xm_gtake 16 (m' := 131071) rfl (by kernel_rfl) (by first | exact Sb.refl | exact Sb.nil | (repeat (first | exact Sb.nil | exact Sb.refl | exact Sb.app0 | apply Sb.keep | apply Sb.keepApp | apply Sb.cons | apply Sb.app))) rfl rfl (rd_cast (v' := .int .u8 (e.s % 256)) (rd_conv rfl) rfl) rfl (by kernel_rfl) ?_
            refine xm_gtake 17 (m' := 262143) rfl (by kernel_rfl) (by first | exact Sb.refl | exact Sb.nil | (repeat (first | exact Sb.nil | exact Sb.refl | exact Sb.app0 | apply Sb.keep | apply Sb.keepApp | apply Sb.cons | apply Sb.app))) rfl rfl (rd_neq rfl rfl) rfl (by kernel_rfl) ?_
            refine xm_gtake 18 (m' := 524287) rfl (by kernel_rfl) (by first | exact Sb.refl | exact Sb.nil | (repeat (first | exact Sb.nil | exact Sb.refl | exact Sb.app0 | apply Sb.keep | apply Sb.keepApp | apply Sb.cons | apply Sb.app))) rfl rfl (rd_pickf rfl rfl) rfl (by kernel_rfl) ?_
            refine xm_gtake 19 (m' := 1048575) rfl (by kernel_rfl) (by first | exact Sb.refl | exact Sb.nil | (repeat (first | exact Sb.nil | exact Sb.refl | exact Sb.app0 | apply Sb.keep | apply Sb.keepApp | apply Sb.cons | apply Sb.app))) rfl rfl (rd_pickt rfl rfl) rfl (by kernel_rfl) ?_
            refine xm_take 20 (m' := 2097151) rfl (by kernel_rfl) (by first | exact Sb.refl | exact Sb.nil | (repeat (first | exact Sb.nil | exact Sb.refl | exact Sb.app0 | apply Sb.keep | apply Sb.keepApp | apply Sb.cons | apply Sb.app))) (rd_pickf rfl rfl) rfl (by kernel_rfl) ?_
            refine xm_done (by kernel_rfl) ?_
            refine xq_seq ?_
            refine xc_ndec rfl (fun h => absurd rfl h) (fun _ => ?_)
            refine xc_skip ?_
            refine xq_seq ?_
            refine xc_seq ?_
            refine xc_region ?_
            refine xo_rd (rd_move rfl) rfl ?_
            refine xo_nil ?_
            refine xq_seq ?_
            refine xc_condt rfl ?_
            refine xc_region ?_
            refine xo_rd (rd_move rfl) rfl ?_
            refine xo_rd (rd_cast (v' := .slice (slp (some ⟨bw, ow, none⟩) wc 1 1) es.length (wc - 1)) (rd_slLo rfl rfl (by decide) (by show (1 : Int) ≤ ((es.length + 1 : Nat) : Int); omega)) rfl) rfl ?_
            refine xo_rd (rd_assign rfl) rfl ?_
            refine xo_nil ?_
          have hw2 := hw.cut 1 (Nat.succ_pos _)
          exact xq_sub (List.Sublist.cons_cons _ (List.sublist_append_right l' _)) (xq_joined (⟨i + 1, es, p2, c2, l, slp (some ⟨bw, ow, none⟩) wc 1 1, wc - 1, wl, M⟩ : AgS) ⟨rfl, ⟨hq2, hw2, fun e he => hpk e (List.mem_cons_of_mem _ he), by dsimp only at hlen ⊢; rw [List.length_cons] at hlen; omega⟩⟩ rfl (by repeat (first | exact keep_nil | refine keep_cons rfl ?_)))
      · obtain ⟨may, hmay⟩ : ∃ m, (decide ((es.length : Int) < b) && !hasS es x) = m := ⟨_, rfl⟩
        focus
          refine xc_seq ?_
          refine xc_region ?_
          refine xo_rd (rd_move rfl) rfl ?_
          refine xo_rd (rd_move rfl) rfl ?_
          refine xo_rd (rd_indexAddr rfl rfl (by omega) (by omega)) rfl ?_
          refine xo_rd (rd_load1 rfl (hcx _)) rfl ?_
          refine xo_rd (rd_rem rfl rfl (by decide)) rfl ?_
          refine xo_rd (rd_eql rfl rfl) rfl ?_
          refine xo_nil ?_
          refine xq_seq ?_
          refine xc_dec rfl (fun hz1 => (by exfalso; omega)) (fun hz1 => ?_)
          refine xc_seq ?_
          refine xc_region ?_
          refine xo_rd (rd_move rfl) rfl ?_
          refine xo_rd (rd_len rfl) rfl ?_
          refine xo_rd (rd_move rfl) rfl ?_
          refine xo_rd (rd_lss rfl rfl) rfl ?_
          refine xo_rd (rd_assign rfl) rfl ?_
          refine xo_nil ?_
          refine xq_seq ?_
          refine xc_seq ?_
          refine xc_seq ?_
          refine xc_region ?_
          refine xo_rd (rd_assign rfl) rfl ?_
          refine xo_nil ?_
          refine xq_seq ?_
          refine xc_block ?_
        refine xc_loopK (ι := Nat) (fun k => k ≤ es.length) (fun k => es.length - k) (fun k => [(0, .int .i64 b), (1, .slice (some ⟨b2, o2, none⟩) n lc), (5, .pointer (some ⟨r, 0, none⟩)), (6, .int .i64 0), (7, .slice wp es.length wc), (8, .int .i64 i), (13, .bool (!((es.take k).any fun e => decide (e.s = x)) && decide ((es.length : Int) < b))), (14, .int .i64 k)]) 0 (Nat.zero_le _) (by repeat (first | exact keep_nil | refine keep_cons rfl ?_)) ?_
        intro k hk
        by_cases hkn : k < es.length
        · have hRw : Rs W ((r, .cells (acl b p1 es.length c1).toArray 127 (0, 0)) :: (l ++ (wl ++ M))) wp (ints .u16 (es.map Pk.s)) := hw.rs (by intro z hz; simp [hz])
          obtain ⟨bw, ow, hqw, hcw⟩ := hRw.int (i := k) (by rw [List.length_map]; exact hkn)
          subst hqw
          rw [List.getElem_map] at hcw
          have hcw' : Cl W ((r, .cells (acl b p1 es.length c1).toArray 127 (0, 0)) :: (l ++ (wl ++ M))) bw (ow + (k : Int).toNat * 1) (.int .u16 es[k].s) := hcw
          have ht : ((es.take (k + 1)).any fun e => decide (e.s = x)) = (((es.take k).any fun e => decide (e.s = x)) || decide (es[k].s = x)) := by
            rw [List.take_add_one, List.getElem?_eq_getElem hkn, List.any_append]
            simp
          generalize es[k].s = y at *
          generalize hA : ((es.take k).any fun e => decide (e.s = x)) = A at *
          focus
            refine xc_seq ?_
            refine xc_seq ?_
            refine xc_region ?_
            refine xo_rd (rd_move rfl) rfl ?_
            refine xo_rd (rd_move rfl) rfl ?_
            refine xo_rd (rd_len rfl) rfl ?_
            refine xo_rd (rd_lss rfl rfl) rfl ?_
            refine xo_nil ?_
            refine xq_seq ?_
            refine xc_dec rfl (fun hy1 => ?_) (fun hy1 => (by exfalso; omega))
            refine xc_skip ?_
            refine xq_seq ?_
            refine xc_seq ?_
            refine xc_block ?_
            refine xc_drawML [0, 1, 2, 2, 14, 18, 2, 2, 194, 258, 546, 1026, 4095] [0, 1, 2, 2, 14, 18, 2, 2, 194, 258, 546, 1026, 4095] (by kernel_rfl) (by kernel_rfl) (by kernel_rfl) ?_
            refine xm_take 0 (m' := 1) rfl (by kernel_rfl) (by first | exact Sb.refl | exact Sb.nil | (repeat (first | exact Sb.nil | exact Sb.refl | exact Sb.app0 | apply Sb.keep | apply Sb.keepApp | apply Sb.cons | apply Sb.app))) (rd_move rfl) rfl (by kernel_rfl) ?_
            refine xm_take 1 (m' := 3) rfl (by kernel_rfl) (by first | exact Sb.refl | exact Sb.nil | (repeat (first | exact Sb.nil | exact Sb.refl | exact Sb.app0 | apply Sb.keep | apply Sb.keepApp | apply Sb.cons | apply Sb.app))) (rd_move rfl) rfl (by kernel_rfl) ?_
            refine xm_split 119 rfl (fun hy2 => ?_) (fun hy2 => ?_)
            refine xm_gtake 2 (m' := 7) rfl (by kernel_rfl) (by first | exact Sb.refl | exact Sb.nil | (repeat (first | exact Sb.nil | exact Sb.refl | exact Sb.app0 | apply Sb.keep | apply Sb.keepApp | apply Sb.cons | apply Sb.app))) rfl rfl (rd_move rfl) rfl (by kernel_rfl) ?_
            refine xm_gtake 3 (m' := 15) rfl (by kernel_rfl) (by first | exact Sb.refl | exact Sb.nil | (repeat (first | exact Sb.nil | exact Sb.refl | exact Sb.app0 | apply Sb.keep | apply Sb.keepApp | apply Sb.cons | apply Sb.app))) rfl rfl (rd_move rfl) rfl (by kernel_rfl) ?_
            refine xm_gtake 4 (m' := 31) rfl (by kernel_rfl) (by first | exact Sb.refl | exact Sb.nil | (repeat (first | exact Sb.nil | exact Sb.refl | exact Sb.app0 | apply Sb.keep | apply Sb.keepApp | apply Sb.cons | apply Sb.app))) rfl rfl (rd_indexAddr rfl rfl (by omega) (by omega)) rfl (by kernel_rfl) ?_
            refine xm_gtake 5 (m' := 63) rfl (by kernel_rfl) (by first | exact Sb.refl | exact Sb.nil | (repeat (first | exact Sb.nil | exact Sb.refl | exact Sb.app0 | apply Sb.keep | apply Sb.keepApp | apply Sb.cons | apply Sb.app))) rfl rfl (rd_load1 rfl hcw') rfl (by kernel_rfl) ?_
            refine xm_gtake 6 (m' := 127) rfl (by kernel_rfl) (by first | exact Sb.refl | exact Sb.nil | (repeat (first | exact Sb.nil | exact Sb.refl | exact Sb.app0 | apply Sb.keep | apply Sb.keepApp | apply Sb.cons | apply Sb.app))) rfl rfl (rd_move rfl) rfl (by kernel_rfl) ?_
            refine xm_gtake 7 (m' := 255) rfl (by kernel_rfl) (by first | exact Sb.refl | exact Sb.nil | (repeat (first | exact Sb.nil | exact Sb.refl | exact Sb.app0 | apply Sb.keep | apply Sb.keepApp | apply Sb.cons | apply Sb.app))) rfl rfl (rd_move rfl) rfl (by kernel_rfl) ?_
            refine xm_gtake 8 (m' := 511) rfl (by kernel_rfl) (by first | exact Sb.refl | exact Sb.nil | (repeat (first | exact Sb.nil | exact Sb.refl | exact Sb.app0 | apply Sb.keep | apply Sb.keepApp | apply Sb.cons | apply Sb.app))) rfl rfl (rd_indexAddr rfl rfl (by omega) (by omega)) rfl (by kernel_rfl) ?_
            refine xm_gtake 9 (m' := 1023) rfl (by kernel_rfl) (by first | exact Sb.refl | exact Sb.nil | (repeat (first | exact Sb.nil | exact Sb.refl | exact Sb.app0 | apply Sb.keep | apply Sb.keepApp | apply Sb.cons | apply Sb.app))) rfl rfl (rd_load1 rfl (hcx _)) rfl (by kernel_rfl) ?_
            refine xm_gtake 10 (m' := 2047) rfl (by kernel_rfl) (by first | exact Sb.refl | exact Sb.nil | (repeat (first | exact Sb.nil | exact Sb.refl | exact Sb.app0 | apply Sb.keep | apply Sb.keepApp | apply Sb.cons | apply Sb.app))) rfl rfl (rd_neq rfl rfl) rfl (by kernel_rfl) ?_
            refine xm_take 11 (m' := 4095) rfl (by kernel_rfl) (by first | exact Sb.refl | exact Sb.nil | (repeat (first | exact Sb.nil | exact Sb.refl | exact Sb.app0 | apply Sb.keep | apply Sb.keepApp | apply Sb.cons | apply Sb.app))) (rd_pickt rfl rfl) rfl (by kernel_rfl) ?_
            refine xm_take 12 (m' := 8191) rfl (by kernel_rfl) (by first | exact Sb.refl | exact Sb.nil | (repeat (first | exact Sb.nil | exact Sb.refl | exact Sb.app0 | apply Sb.keep | apply Sb.keepApp | apply Sb.cons | apply Sb.app))) (rd_assign rfl) rfl (by kernel_rfl) ?_
            refine xm_done (by kernel_rfl) ?_
            refine xq_block ?_
            refine xq_seq ?_
            refine xc_region ?_
            refine xo_rd (rd_move rfl) rfl ?_
            refine xo_rd (rd_addn rfl rfl (by omega) (by omega)) rfl ?_
            refine xo_rd (rd_assign rfl) rfl ?_
            refine xo_nil ?_
            rotate_left
            refine xm_gskip 2 (m' := 7) rfl (by kernel_rfl) (by first | exact Sb.refl | exact Sb.nil | (repeat (first | exact Sb.nil | exact Sb.refl | exact Sb.app0 | apply Sb.keep | apply Sb.keepApp | apply Sb.cons | apply Sb.app))) rfl rfl rfl rfl (by kernel_rfl) ?_
            refine xm_gskip 3 (m' := 15) rfl (by kernel_rfl) (by first | exact Sb.refl | exact Sb.nil | (repeat (first | exact Sb.nil | exact Sb.refl | exact Sb.app0 | apply Sb.keep | apply Sb.keepApp | apply Sb.cons | apply Sb.app))) rfl rfl rfl rfl (by kernel_rfl) ?_
            refine xm_gskip 4 (m' := 31) rfl (by kernel_rfl) (by first | exact Sb.refl | exact Sb.nil | (repeat (first | exact Sb.nil | exact Sb.refl | exact Sb.app0 | apply Sb.keep | apply Sb.keepApp | apply Sb.cons | apply Sb.app))) rfl rfl rfl rfl (by kernel_rfl) ?_
            refine xm_gskip 5 (m' := 63) rfl (by kernel_rfl) (by first | exact Sb.refl | exact Sb.nil | (repeat (first | exact Sb.nil | exact Sb.refl | exact Sb.app0 | apply Sb.keep | apply Sb.keepApp | apply Sb.cons | apply Sb.app))) rfl rfl rfl rfl (by kernel_rfl) ?_
            refine xm_gskip 6 (m' := 127) rfl (by kernel_rfl) (by first | exact Sb.refl | exact Sb.nil | (repeat (first | exact Sb.nil | exact Sb.refl | exact Sb.app0 | apply Sb.keep | apply Sb.keepApp | apply Sb.cons | apply Sb.app))) rfl rfl rfl rfl (by kernel_rfl) ?_
            refine xm_gskip 7 (m' := 255) rfl (by kernel_rfl) (by first | exact Sb.refl | exact Sb.nil | (repeat (first | exact Sb.nil | exact Sb.refl | exact Sb.app0 | apply Sb.keep | apply Sb.keepApp | apply Sb.cons | apply Sb.app))) rfl rfl rfl rfl (by kernel_rfl) ?_
            refine xm_gskip 8 (m' := 511) rfl (by kernel_rfl) (by first | exact Sb.refl | exact Sb.nil | (repeat (first | exact Sb.nil | exact Sb.refl | exact Sb.app0 | apply Sb.keep | apply Sb.keepApp | apply Sb.cons | apply Sb.app))) rfl rfl rfl rfl (by kernel_rfl) ?_
            refine xm_gskip 9 (m' := 1023) rfl (by kernel_rfl) (by first | exact Sb.refl | exact Sb.nil | (repeat (first | exact Sb.nil | exact Sb.refl | exact Sb.app0 | apply Sb.keep | apply Sb.keepApp | apply Sb.cons | apply Sb.app))) rfl rfl rfl rfl (by kernel_rfl) ?_
            refine xm_gskip 10 (m' := 2047) rfl (by kernel_rfl) (by first | exact Sb.refl | exact Sb.nil | (repeat (first | exact Sb.nil | exact Sb.refl | exact Sb.app0 | apply Sb.keep | apply Sb.keepApp | apply Sb.cons | apply Sb.app))) rfl rfl rfl rfl (by kernel_rfl) ?_
            refine xm_take 11 (m' := 4095) rfl (by kernel_rfl) (by first | exact Sb.refl | exact Sb.nil | (repeat (first | exact Sb.nil | exact Sb.refl | exact Sb.app0 | apply Sb.keep | apply Sb.keepApp | apply Sb.cons | apply Sb.app))) (rd_pickf rfl rfl) rfl (by kernel_rfl) ?_
            refine xm_take 12 (m' := 8191) rfl (by kernel_rfl) (by first | exact Sb.refl | exact Sb.nil | (repeat (first | exact Sb.nil | exact Sb.refl | exact Sb.app0 | apply Sb.keep | apply Sb.keepApp | apply Sb.cons | apply Sb.app))) (rd_assign rfl) rfl (by kernel_rfl) ?_
            refine xm_done (by kernel_rfl) ?_
            refine xq_block ?_
            refine xq_seq ?_
            refine xc_region ?_
            refine xo_rd (rd_move rfl) rfl ?_
            refine xo_rd (rd_addn rfl rfl (by omega) (by omega)) rfl ?_
            refine xo_rd (rd_assign rfl) rfl ?_
            refine xo_nil ?_
            rotate_left
          · refine xq_roundK rfl (k + 1) (by omega) (by omega) (List.Sublist.refl _) (by
              have h2 := (Bool.and_eq_true _ _ ▸ hy2)
              have hA0 : A = false := by simpa using h2.1
              rw [ht, hA0, h2.2, Bool.false_or, Bool.and_true]
              exact (by repeat (first | exact keep_nil | refine keep_cons rfl ?_)))
          · refine xq_roundK rfl (k + 1) (by omega) (by omega) (List.Sublist.refl _) (by
              have hF : (!(A || decide (y = x)) && decide ((es.length : Int) < b)) = false := by
                revert hy2
                cases A <;> cases decide ((es.length : Int) < b) <;> simp
              rw [ht, hF]
              exact (by repeat (first | exact keep_nil | refine keep_cons rfl ?_)))
        · skip
          rw [List.take_of_length_le (by omega)]
          have hmay2 : (!(es.any fun e => decide (e.s = x)) && decide ((es.length : Int) < b)) = may := by
            rw [← hmay, Bool.and_comm]; rfl
          rw [hmay2]
          focus
            refine xc_seq ?_
            refine xc_seq ?_
            refine xc_region ?_
            refine xo_rd (rd_move rfl) rfl ?_
            refine xo_rd (rd_move rfl) rfl ?_
            refine xo_rd (rd_len rfl) rfl ?_
            refine xo_rd (rd_lss rfl rfl) rfl ?_
            refine xo_nil ?_
            refine xq_seq ?_
            refine xc_dec rfl (fun h1 => (by exfalso; omega)) (fun h1 => ?_)
            refine xc_exit ?_
            refine xq_then_exit ?_
            refine xq_then_exit ?_
            refine xq_block_hit ?_
            refine xq_seq ?_
            refine xc_seq ?_
            refine xc_region ?_
            refine xo_rd (rd_move rfl) rfl ?_
            refine xo_rd (rd_move rfl) rfl ?_
            refine xo_rd (rd_indexAddr rfl rfl (by omega) (by omega)) rfl ?_
            refine xo_rd (rd_load1 rfl (hcx _)) rfl ?_
            refine xo_rd (rd_cast (v' := .int .u8 (x % 256)) (rd_conv rfl) rfl) rfl ?_
            refine xo_ef rfl (ef_slice1 rfl rfl rfl fun r135 => ?_)
            refine xo_rd (rd_assign rfl) rfl ?_
            refine xo_nil ?_
            refine xq_seq ?_
          have hsp : ∀ r135 : Nat, SlO 1 5 (.slice (some ⟨r135, 0, none⟩) 1 1) 1 (ints .u8 [x % 256]) [(r135, .cells #[.int .u8 (x % 256)] 5 (0, 0))] := fun r135 => .inr ⟨r135, _, 1, rfl, rfl, Nat.le_refl _, rfl, rfl⟩
          cases may with
          | false =>
            have hput := xf_APutF (W := W) (M := (r135, .cells #[.int .u8 (x % 256)] 5 (0, 0)) :: (wl ++ M)) r b p1 es.length c1 es l rfl hq (by omega) x (some ⟨r135, 0, none⟩) 1 1 hmay
            focus
              refine xc_seq ?_
              refine xc_seq ?_
              refine xc_region ?_
              refine xo_rd (rd_move rfl) rfl ?_
              refine xo_rd (rd_move rfl) rfl ?_
              refine xo_rd (rd_move rfl) rfl ?_
              refine xo_rd (rd_indexAddr rfl rfl (by omega) (by omega)) rfl ?_
              refine xo_rd (rd_load1 rfl (hcx _)) rfl ?_
              refine xo_rd (rd_move rfl) rfl ?_
              refine xo_ef rfl (ef_call rfl (XF.mono (hput.perm (perm_q1 _ _ l (wl ++ M))) ?_))
              rintro v L' ⟨rfl, rfl⟩
              refine xo_perm (perm_q1 _ _ l (wl ++ M)).symm ?_
              refine xo_rd (rd_move rfl) rfl ?_
              refine xo_rd (rd_cast (v' := .bool false) (rd_neb rfl rfl) (congrArg Value.bool (by first | rfl | exact bnot_self _))) rfl ?_
              refine xo_nil ?_
              refine xq_seq ?_
              refine xc_condf rfl ?_
              refine xc_skip ?_
              refine xq_seq ?_
              refine xc_seq ?_
              refine xc_region ?_
              refine xo_rd (rd_move rfl) rfl ?_
              refine xo_ef rfl (ef_call rfl (XF.mono (xf_spoil _ 1 _ [(r135, .cells #[.int .u8 (x % 256)] 5 (0, 0))] (hsp r135) (by decide)) ?_))
              rintro v L' ⟨rfl, xs', l', hO', rfl⟩
              refine xo_sub (List.sublist_append_right l' _) ?_
              refine xo_nil ?_
              refine xq_seq ?_
              refine xc_seq ?_
              refine xc_region ?_
              refine xo_rd (rd_move rfl) rfl ?_
              refine xo_nil ?_
              refine xq_seq ?_
              refine xc_condf rfl ?_
              refine xc_skip ?_
            exact xq_joined (⟨i + 1, es, p1, c1, l, wp, wc, wl, M⟩ : AgS) ⟨rfl, ⟨hq, hw, hpk, by dsimp only; omega⟩⟩ rfl (by repeat (first | exact keep_nil | refine keep_cons rfl ?_))
          | true =>
            have hput := xf_APutT (W := W) (M := (r135, .cells #[.int .u8 (x % 256)] 5 (0, 0)) :: (wl ++ M)) r b p1 es.length c1 es l rfl hq (by omega) x [x % 256] (some ⟨r135, 0, none⟩) 1 1 ((hsp r135).rs fun z hz => List.mem_append_left _ hz) rfl (by decide) hmay
            focus
              refine xc_seq ?_
              refine xc_seq ?_
              refine xc_region ?_
              refine xo_rd (rd_move rfl) rfl ?_
              refine xo_rd (rd_move rfl) rfl ?_
              refine xo_rd (rd_move rfl) rfl ?_
              refine xo_rd (rd_indexAddr rfl rfl (by omega) (by omega)) rfl ?_
              refine xo_rd (rd_load1 rfl (hcx _)) rfl ?_
              refine xo_rd (rd_move rfl) rfl ?_
              refine xo_ef rfl (ef_call rfl (XF.mono (hput.perm (perm_q1 _ _ l (wl ++ M))) ?_))
              rintro v L' ⟨q, k2, p2, c2, l2, lb, rfl, hO2, hq2, rfl⟩
              refine xo_perm (perm_w3 l2 lb (wl ++ M)) ?_
              refine xo_rd (rd_move rfl) rfl ?_
              refine xo_rd (rd_cast (v' := .bool false) (rd_neb rfl rfl) (congrArg Value.bool (by first | rfl | exact bnot_self _))) rfl ?_
              refine xo_nil ?_
              refine xq_seq ?_
              refine xc_condf rfl ?_
              refine xc_skip ?_
              refine xq_seq ?_
              refine xc_seq ?_
              refine xc_region ?_
              refine xo_rd (rd_move rfl) rfl ?_
              refine xo_ef rfl (ef_call rfl (XF.mono (xf_spoil _ 1 _ [(r135, .cells #[.int .u8 (x % 256)] 5 (0, 0))] (hsp r135) (by decide)) ?_))
              rintro v L' ⟨rfl, xs', l', hO', rfl⟩
              refine xo_sub (List.sublist_append_right l' _) ?_
              refine xo_nil ?_
              refine xq_seq ?_
              refine xc_seq ?_
              refine xc_region ?_
              refine xo_rd (rd_move rfl) rfl ?_
              refine xo_nil ?_
              refine xq_seq ?_
              refine xc_condt rfl ?_
              refine xc_region ?_
              refine xo_rd (rd_move rfl) rfl ?_
              refine xo_rd (rd_move rfl) rfl ?_
              refine xo_rd (rd_move rfl) rfl ?_
              refine xo_rd (rd_indexAddr rfl rfl (by omega) (by omega)) rfl ?_
              refine xo_rd (rd_load1 rfl (hcx _)) rfl ?_
              refine xo_ef rfl (ef_slice1 rfl rfl rfl fun r153 => ?_)
              refine xo_ef rfl (ef_appendQS ((r153, .cells #[.int .u16 x] 36 (0, 0)) :: (r, .cells (acl b p2 (es.length + 1) c2).toArray 127 (0, 0)) :: (l2 ++ lb)) M wl (news := [.int .u16 x]) rfl rfl hw (by simp) (Rs.fresh (vs := [.int .u16 x]) (List.Mem.head _)) rfl rfl (by decide) (by omega) (by omega) fun wp2 wc2 wl2 hw2 hwc2 => ?_)
              refine xo_rd (rd_assign rfl) rfl ?_
              refine xo_nil ?_
            have hla : (es ++ [(⟨x, [x % 256], q, k2⟩ : Pk)]).length = es.length + 1 := by rw [List.length_append]; rfl
            refine xq_tail (xq_perm (perm_w4 l2 lb wl2 M) (xq_joined (⟨i + 1, es ++ [⟨x, [x % 256], q, k2⟩], p2, c2, l2, wp2, wc2, wl2, lb ++ M⟩ : AgS) ⟨rfl, ⟨?_, ?_, ?_, ?_⟩⟩ ?_ ?_))
            · dsimp only
              rw [hla]; exact hq2
            · dsimp only
              rw [hla, List.map_append, ints_app]; exact hw2
            · dsimp only
              intro e he
              rcases List.mem_append.1 he with h | h
              · exact ⟨(hpk e h).1, (hpk e h).2.mono fun z hz => List.mem_append_right _ hz⟩
              · rw [List.mem_singleton.1 h]; exact ⟨rfl, hO2.rsl⟩
            · dsimp only
              rw [hla]; omega
            · rw [agL_mk, hla]
            · dsimp only
              rw [hla]
              exact (by repeat (first | exact keep_nil | refine keep_cons rfl ?_))
    · rintro ⟨i', es, p1, c1, l, wp, wc, wl, M⟩ ⟨hi', hok⟩
      dsimp only at hi'
      subst hi'
      have hokk := hok
      rw [agL_mk]
      dsimp only
      focus
        refine xc_seq ?_
        refine xc_region ?_
        refine xo_rd (rd_move rfl) rfl ?_
        refine xo_ef rfl (ef_call rfl (XF.mono (xf_ALen r p1 es.length c1 (Cl.o0 rfl)) ?_))
        rintro v L' ⟨rfl, rfl⟩
        refine xo_rd (rd_move rfl) rfl ?_
        refine xo_rd (rd_len rfl) rfl ?_
        refine xo_rd (rd_neq rfl rfl) rfl ?_
        refine xo_nil ?_
        refine xq_seq ?_
        refine xc_ndec rfl (fun h => absurd rfl h) (fun _ => ?_)
        refine xc_skip ?_
        refine xq_block ?_
        refine xq_seq ?_
        refine xc_region ?_
        refine xo_rd (rd_move rfl) rfl ?_
        refine xo_rd (rd_addn rfl rfl (by omega) (by omega)) rfl ?_
        refine xo_rd (rd_assign rfl) rfl ?_
        refine xo_nil ?_
      exact xq_roundI (⟨i + 1, es, p1, c1, l, wp, wc, wl, M⟩ : AgS) ⟨by dsimp only; omega, hokk⟩ (by dsimp only; omega) rfl (by repeat (first | exact keep_nil | refine keep_cons rfl ?_))
  · skip
    focus
      refine xc_seq ?_
      refine xc_seq ?_
      refine xc_region ?_
      refine xo_rd (rd_move rfl) rfl ?_
      refine xo_rd (rd_move rfl) rfl ?_
      refine xo_rd (rd_len rfl) rfl ?_
      refine xo_rd (rd_lss rfl rfl) rfl ?_
      refine xo_nil ?_
      refine xq_seq ?_
      refine xc_dec rfl (fun h1 => (by exfalso; omega)) (fun h1 => ?_)
      refine xc_exit ?_
      refine xq_then_exit ?_
      refine xq_then_exit ?_
      refine xq_block_hit ?_
      refine xq_seq ?_
      refine xc_seq ?_
      refine xc_region ?_
      refine xo_rd (rd_move rfl) rfl ?_
      refine xo_rd (rd_eql rfl rfl) rfl ?_
      refine xo_rd (rd_move rfl) rfl ?_
      refine xo_gef rfl rfl rfl (ef_call rfl (XF.mono (xf_works) ?_))
      rintro v L' ⟨rfl, rfl⟩
      refine xo_rd (rd_pickt rfl rfl) rfl ?_
      refine xo_rd (rd_assign rfl) rfl ?_
      refine xo_nil ?_
      refine xq_seq ?_
      refine xc_ret ?_
    exact xq_ret1 (.inl rfl) Try.results5 rfl rfl
end Go.Proofs.Ytpheiklhjelkcaa.X
/-
  Words of my own: what an argument that can be read holds, for the rows. No condition; generic over the program.
-/
namespace Go.Proofs.Ytpheiklhjelkcaa.X
open Go Go.RowKit
set_option linter.unusedVariables false
set_option linter.unusedSimpArgs false

/-- Cells of type T that can be read in W are those of some a that is good. -/
def Op' (P : Program) (W : World) (T : Nat) {α : Type} (enc : α → List Value) (Good : α → Prop) : Prop :=
  ∀ {H : Type} (encH : TypeId × Value → H) (fuel : Nat) (cs : List Value) (x : DataW H × List MemPlace), DataW.trod encH P W 0 (fun _ => true) true fuel T cs = some x → ∃ a, cs = enc a ∧ Good a

def InK (k : IntKind) (n : Int) : Prop := k.min ≤ n ∧ n ≤ k.max
theorem inK_u64 {n : Int} : InK .u64 n ↔ 0 ≤ n ∧ n ≤ 18446744073709551615 := Iff.rfl
theorem inK_u32 {n : Int} : InK .u32 n ↔ 0 ≤ n ∧ n ≤ 4294967295 := Iff.rfl
theorem inK_u16 {n : Int} : InK .u16 n ↔ 0 ≤ n ∧ n ≤ 65535 := Iff.rfl
theorem inK_u8 {n : Int} : InK .u8 n ↔ 0 ≤ n ∧ n ≤ 255 := Iff.rfl
theorem inK_i64 {n : Int} : InK .i64 n ↔ -9223372036854775808 ≤ n ∧ n ≤ 9223372036854775807 := Iff.rfl
theorem inK_i32 {n : Int} : InK .i32 n ↔ -2147483648 ≤ n ∧ n ≤ 2147483647 := Iff.rfl
theorem inK_of {k : IntKind} {n : Int} (h : (Lit.int k n).wf = true) : InK k n := by simpa [Lit.wf, InK] using h

/-- A slice's value: where, how many, and what its elements are. -/
structure SlV (α : Type) where
  p : Option Addr
  n : Nat
  c : Nat
  l : List α
def SlV.enc {α : Type} (v : SlV α) : List Value := [.slice v.p v.n v.c]
structure SlV.Good {α : Type} (W : World) (enc : α → List Value) (G : α → Prop) (v : SlV α) : Prop where
  len : v.l.length = v.n
  rs : Rs W [] v.p (v.l.flatMap enc)
  all : ∀ x, x ∈ v.l → G x
  cap : v.n ≤ v.c
  max : v.c ≤ 9223372036854775807
theorem exists_list {α : Type} {R : Nat → α → Prop} : ∀ (n : Nat), (∀ i, i < n → ∃ x, R i x) → ∃ l : List α, l.length = n ∧ ∀ (i : Nat) (x : α), l[i]? = some x → R i x
  | 0, _ => ⟨[], rfl, fun i x h => by cases h⟩
  | n + 1, h => by
    obtain ⟨l, hl, hr⟩ := exists_list n (fun i hi => h i (by omega))
    obtain ⟨x, hx⟩ := h n (by omega)
    refine ⟨l ++ [x], by simp [hl], fun i y hy => ?_⟩
    by_cases hi : i < n
    · rw [List.getElem?_append_left (by omega)] at hy; exact hr i y hy
    · rw [List.getElem?_append_right (by omega)] at hy
      have : i = n := by
        have := (List.getElem?_eq_some_iff.1 hy).1
        simp at this; omega
      subst this
      simp [hl] at hy
      subst hy; exact hx
theorem flat_at {α : Type} (enc : α → List Value) {s : Nat} (hs : ∀ x, (enc x).length = s) (h0 : 0 < s) : ∀ (l : List α) (j : Nat) (u : Value), (l.flatMap enc)[j]? = some u → ∃ x, l[j / s]? = some x ∧ (enc x)[j % s]? = some u
  | [], j, u, h => by simp at h
  | y :: r, j, u, h => by
    rw [List.flatMap_cons] at h
    by_cases hj : j < s
    · rw [List.getElem?_append_left (by rw [hs]; exact hj)] at h
      exact ⟨y, by rw [Nat.div_eq_of_lt hj]; rfl, by rw [Nat.mod_eq_of_lt hj]; exact h⟩
    · rw [List.getElem?_append_right (by rw [hs]; omega), hs] at h
      obtain ⟨x, h1, h2⟩ := flat_at enc hs h0 r (j - s) u h
      refine ⟨x, ?_, ?_⟩
      · rw [show j / s = (j - s) / s + 1 from by rw [Nat.div_eq_sub_div h0 (by omega)]]; simpa using h1
      · rw [show j % s = (j - s) % s from Nat.mod_eq_sub_mod (by omega)]; exact h2
section
variable {P : Program} {W : World}
theorem op_int {T : Nat} {k : IntKind} [h : Ik P T k] : Op' P W T (fun n : Int => [.int k n]) (InK k) := fun encH fuel cs x hx => by
  obtain ⟨n, h1, h2, h3⟩ := DataW.trod_int h.h hx
  exact ⟨n, h1, inK_of h3⟩
theorem op_bool {T : Nat} [h : Bo P T] : Op' P W T (fun b : Bool => [.bool b]) (fun _ => True) := fun encH fuel cs x hx => by
  obtain ⟨n, h1, h2⟩ := DataW.trod_bool h.h hx
  exact ⟨n, h1, trivial⟩
theorem op_string {T : Nat} [h : St P T] : Op' P W T (fun s : ByteArray => [.string s]) (fun s => s.size ≤ 9223372036854775807) := fun encH fuel cs x hx => by
  obtain ⟨s, h1, h2, h3⟩ := DataW.trod_string h.h hx
  exact ⟨s, h1, by unfold maxLen at h3; exact h3⟩
theorem op_slice {α : Type} {T e s : Nat} {z : Value} {bt : Nat} {enc : α → List Value} {G : α → Prop} [h : Sl P T e] [hi : Inf P e z s bt] (he : Op' P W e enc G) (hs : ∀ x, (enc x).length = s) (h0 : 0 < s) :
    Op' P W T (SlV.enc (α := α)) (SlV.Good W enc G) := fun encH fuel cs x hx => by
  have hc : P.cellsOf e = s := by
    obtain ⟨i, h1, h2, h3, h4, h5⟩ := hi.h
    simp [Program.cellsOf, h1, h3]
  rcases DataW.trod_slice h.h hx with ⟨h1, _⟩ | ⟨a, len, cap, elems, rest, m, _, h1, _, _, hl, hm, hlen, hel, _, _⟩
  · exact ⟨⟨none, 0, 0, []⟩, h1, ⟨rfl, Rs.nil, (fun _ h => by cases h), Nat.le_refl _, Nat.zero_le _⟩⟩
  · rw [hc] at hel
    have hex : ∀ i, i < len → ∃ x, W.cells? 0 (a.add (i * s)) s = some (enc x) ∧ G x := fun i hi => by
      have h2 := hel i hi
      rw [List.getElem?_eq_getElem (by omega)] at h2
      obtain ⟨ecs, h3, h4⟩ := Option.bind_eq_some_iff.1 h2
      obtain ⟨x, rfl, hg⟩ := he encH m ecs _ h4
      exact ⟨x, h3, hg⟩
    obtain ⟨l, hl1, hl2⟩ := exists_list len hex
    refine ⟨⟨some a, len, cap, l⟩, h1, ⟨hl1, ?_, ?_, hl, by unfold maxLen at hm; exact hm⟩⟩
    · intro j u hj
      have cell : ∀ j u, (l.flatMap enc)[j]? = some u → W.cell? (a.add j) = some u := fun j u hj => by
        obtain ⟨x, h2, h3⟩ := flat_at enc hs h0 l j u hj
        have h4 := (hl2 _ _ h2).1
        have h5 := (World.cells?_some h4).2.2 (j % s) (Nat.mod_lt _ h0)
        rw [h3] at h5
        have h6 : (a.add (j / s * s)).add (j % s) = a.add j := by
          have hdm : j / s * s + j % s = j := by rw [Nat.mul_comm]; exact Nat.div_add_mod j s
          obtain ⟨b, o, sp⟩ := a
          unfold Addr.add
          by_cases e1 : j / s * s = 0
          · rw [if_pos e1]
            have e2 : j % s = j := by omega
            rw [e2]
          · rw [if_neg e1, if_neg (show ¬ j = 0 by omega)]
            by_cases e2 : j % s = 0
            · rw [if_pos e2]
              have : j / s * s = j := by omega
              rw [this]
            · rw [if_neg e2]
              simp only [Addr.mk.injEq, true_and, and_true]
              omega
        rw [h6] at h5
        exact h5
      have hpos : 0 < (l.flatMap enc).length := Nat.lt_of_le_of_lt (Nat.zero_le j) (List.getElem?_eq_some_iff.1 hj).1
      have hsp : a.spot = none := by
        have := cell 0 _ (List.getElem?_eq_getElem hpos)
        have e0 : a.add 0 = a := rfl
        rw [e0] at this
        unfold World.cell? at this
        split at this
        · split at this
          · cases this
          · rename_i hh; simpa using hh
        · cases this
      obtain ⟨b, o, sp⟩ := a
      subst hsp
      refine ⟨b, o, rfl, Cl.base ?_⟩
      have := cell j u hj
      rwa [add_zero'] at this
    · intro x hx
      obtain ⟨i, hi1, hi2⟩ := List.getElem_of_mem hx
      exact (hl2 i x (by rw [List.getElem?_eq_getElem hi1, hi2])).2
/-- A struct's field. -/
theorem op_field {H : Type} {encH : TypeId × Value → H} {fuel T : Nat} {cs : List Value} {x : DataW H × List MemPlace} {fs : Array Field} (hT : P.underlying T = some (.struct fs)) (h : DataW.trod encH P W 0 (fun _ => true) true fuel T cs = some x) :
    cs.length = P.cellsOf T ∧ ∀ (i : Nat) (f : Field), fs[i]? = some f → ∃ m y, DataW.trod encH P W 0 (fun _ => true) true m f.type ((cs.drop f.offset).take (P.cellsOf f.type)) = some y := by
  obtain ⟨xs, m, _, _, h1, h2, h3⟩ := DataW.trod_struct hT h
  refine ⟨h1, fun i f hf => ⟨m, xs[i]'(by have := (Array.getElem?_eq_some_iff.1 hf).1; omega), ?_⟩⟩
  rw [h3 i f hf, List.getElem?_eq_getElem]
theorem op_field' {α : Type} {enc : α → List Value} {G : α → Prop} {T i off Tf s : Nat} {z : Value} {bt : Nat} [hF : Fd P T i off Tf] [hi : Inf P Tf z s bt] (he : Op' P W Tf enc G) {H : Type} {encH : TypeId × Value → H} {fuel : Nat} {cs : List Value} {x : DataW H × List MemPlace}
    (h : DataW.trod encH P W 0 (fun _ => true) true fuel T cs = some x) : ∃ a, (cs.drop off).take s = enc a ∧ G a := by
  obtain ⟨fs, f, h1, h2, h3, h4⟩ := hF.h
  have hc : P.cellsOf Tf = s := by
    obtain ⟨i, h1, h2, h3, h4, h5⟩ := hi.h
    simp [Program.cellsOf, h1, h3]
  obtain ⟨_, h5⟩ := op_field h1 h
  obtain ⟨m, y, h6⟩ := h5 i f h2
  rw [h3, h4, hc] at h6
  exact he encH m _ y h6
theorem op_len {T s : Nat} {z : Value} {bt i off Tf : Nat} [hF : Fd P T i off Tf] [hi : Inf P T z s bt] {H : Type} {encH : TypeId × Value → H} {fuel : Nat} {cs : List Value} {x : DataW H × List MemPlace}
    (h : DataW.trod encH P W 0 (fun _ => true) true fuel T cs = some x) : cs.length = s := by
  obtain ⟨fs, f, h1, h2, h3, h4⟩ := hF.h
  have hc : P.cellsOf T = s := by
    obtain ⟨i, h1, h2, h3, h4, h5⟩ := hi.h
    simp [Program.cellsOf, h1, h3]
  rw [← hc]
  exact (op_field h1 h).1
/-- The argument's value itself. -/
theorem top_one {α : Type} {T : Nat} {enc : α → List Value} {G : α → Prop} (he : Op' P W T enc G) {H : Type} {encH : TypeId × Value → H} {v : Value} {d : DataW H} {ps : List MemPlace} (h : DataW.Trod encH P W 0 (fun _ => true) true T v d ps) (h1 : v.cells.toList = [v]) : ∃ a, [v] = enc a ∧ G a := by
  obtain ⟨fuel, hf⟩ := h
  rw [h1] at hf
  exact he encH fuel _ _ hf
theorem top_agg {α : Type} {T : Nat} {enc : α → List Value} {G : α → Prop} (he : Op' P W T enc G) {H : Type} {encH : TypeId × Value → H} {cs : Array Value} {d : DataW H} {ps : List MemPlace} (h : DataW.Trod encH P W 0 (fun _ => true) true T (.agg cs) d ps) : ∃ a, cs = (enc a).toArray ∧ G a := by
  obtain ⟨fuel, hf⟩ := h
  obtain ⟨a, h1, h2⟩ := he encH fuel _ _ hf
  refine ⟨a, ?_, h2⟩
  have h3 : cs.toList = enc a := h1
  rw [← h3]
end
end Go.Proofs.Ytpheiklhjelkcaa.X
