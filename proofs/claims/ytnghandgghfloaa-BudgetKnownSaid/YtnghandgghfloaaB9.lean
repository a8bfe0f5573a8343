/-
  BudgetKnown: a walk of my own.
-/
import Derived.Test.YtnghandgghfloaaB8
import Derived.Test.YtnghandgghfloaaB7
import Derived.Test.YtnghandgghfloaaX18
namespace Go.Proofs.Ytnghandgghfloaa.X
open Go Go.RowKit
set_option linter.unusedVariables false
set_option linter.unusedSimpArgs false
theorem xf_lawA {W : World} {L : List Blk} (rate : Int) (p q : Option Addr) (n c m d : Nat) (ct cm : List Int) (hn : ct.length = n) (hm : cm.length = m) (hr : Rs W L p (ints .u64 ct)) (hq : Rs W L q (ints .u64 cm)) (hU : ∀ x, x ∈ ct → U x) (hU2 : ∀ x, x ∈ cm → U x) (hb : n ≤ 1000) (hb2 : m ≤ 1000) (h0 : U rate) :
    XF Try.prog W 3 #[.int .u64 rate, .agg #[.slice p n c, .slice q m d]] L (fun v L' => v = .bool true ∧ L' = L) :=
  xf_over fun w hw => xf_BudgetAllocates rate p q n c m d ct cm hn hm (hr.over hw) (hq.over hw) hU hU2 (by omega) (by omega) h0
theorem xf_lawF {W : World} {L : List Blk} (rate more : Int) (p q : Option Addr) (n c m d : Nat) (ct cm : List Int) (hn : ct.length = n) (hm : cm.length = m) (hr : Rs W L p (ints .u64 ct)) (hq : Rs W L q (ints .u64 cm)) (hU : ∀ x, x ∈ ct → U x) (hU2 : ∀ x, x ∈ cm → U x) (hb : n ≤ 1000) (hb2 : m ≤ 1000) (h0 : U rate) (h1 : U more) :
    XF Try.prog W 4 #[.int .u64 rate, .int .u64 more, .agg #[.slice p n c, .slice q m d]] L (fun v L' => v = .bool true ∧ L' = L) :=
  xf_over fun w hw => xf_BudgetFair rate more p q n c m d ct cm hn hm (hr.over hw) (hq.over hw) hU hU2 (by omega) (by omega) h0 h1
theorem xf_lawP {W : World} {L : List Blk} (p q p1 p2 : Option Addr) (n c m d n1 c1 n2 c2 : Nat) (ct cm : List Int) (ca1 ca2 : Int) (on1 on2 : List Bool) (hn : ct.length = n) (hm : cm.length = m) (hn1 : on1.length = n1) (hn2 : on2.length = n2) (hr : Rs W L p (ints .u64 ct)) (hq : Rs W L q (ints .u64 cm)) (hp1 : Rs W L p1 (bls on1)) (hp2 : Rs W L p2 (bls on2)) (hU : ∀ x, x ∈ ct → U x) (hU2 : ∀ x, x ∈ cm → U x) (hb : n ≤ 1000) (hb2 : m ≤ 1000) (hb3 : n1 ≤ 1000) (hb4 : n2 ≤ 1000) :
    XF Try.prog W 5 #[.agg #[.slice p n c, .slice q m d], .agg #[.int .i64 ca1, .slice p1 n1 c1], .agg #[.int .i64 ca2, .slice p2 n2 c2]] L (fun v L' => v = .bool true ∧ L' = L) :=
  xf_over fun w hw => xf_BudgetPlans p q p1 p2 n c m d n1 c1 n2 c2 ct cm ca1 ca2 on1 on2 hn hm hn1 hn2 (hr.over hw) (hq.over hw) (hp1.over hw) (hp2.over hw) hU hU2 (by omega) (by omega) (by omega) (by omega)
def conN (n : Nat) : List Int := [(n : Int) % 3, 2 + (n : Int) % 4, 5 + (n : Int) % 5, 9 + (n : Int) % 7]
def camN (n : Nat) : List Int := [(n : Int) / 3 % 4, 3, (n : Int) / 9 % 5]
structure Cst where
  p : Option Addr
  q : Option Addr
  n : Nat
  c : Nat
  m : Nat
  d : Nat
  ct : List Int
  cm : List Int
def Cst.enc (x : Cst) : List Value := [.slice x.p x.n x.c, .slice x.q x.m x.d]
theorem Cst.len (x : Cst) : x.enc.length = 2 := rfl
structure Cst.Ok (W : World) (L : List Blk) (x : Cst) : Prop where
  n : x.ct.length = x.n
  m : x.cm.length = x.m
  r : Rs W L x.p (ints .u64 x.ct)
  q : Rs W L x.q (ints .u64 x.cm)
  u : ∀ z, z ∈ x.ct → U z
  v : ∀ z, z ∈ x.cm → U z
  b : x.n ≤ 1000
  b2 : x.m ≤ 1000
def rts2 : List Int := [0, 1, 1499, 1500, 18446744073709551614, 18446744073709551615]
theorem rts2_U (z : Int) (h : z ∈ rts2) : U z := by
  simp only [rts2, List.mem_cons, List.not_mem_nil, or_false] at h
  unfold U; omega
theorem rep_ints (k : Nat) : List.replicate k (Value.int .u64 0) = ints .u64 (List.replicate k 0) := by simp [ints]
theorem rep_bls (k : Nat) : List.replicate k (Value.bool false) = bls (List.replicate k false) := by simp [bls]
def onN (n : Nat) : List Bool := [decide ((n : Int) % 2 = 0), decide ((n : Int) % 3 = 0), true, false, true]
theorem bls_take (l : List Bool) (i : Nat) : bls (l.take i) = (bls l).take i := by simp [bls, List.map_take]
set_option maxHeartbeats 4000000 in
theorem xf_BudgetKnown {W : World} : XF Try.prog W 6 #[] [] (fun v L' => v = .bool true) := by
  refine xf_enter (args := []) Try.func6 rfl Try.ntmps6 rfl ?_
  focus
    refine xc_seq ?_
    refine xc_region ?_
    refine xo_rd (rd_assign rfl) rfl ?_
    refine xo_nil ?_
    refine xq_seq ?_
    refine xc_seq ?_
    refine xc_seq ?_
    refine xc_region ?_
    refine xo_rd (rd_assign rfl) rfl ?_
    refine xo_nil ?_
    refine xq_seq ?_
    refine xc_block ?_
  refine xc_loopI (ι := Nat) (fun n => n ≤ 81) (fun n => 81 - n) (fun _ => []) (fun n => [(0, .bool false), (1, .int .i64 n)]) 0 (by omega) rfl (by repeat (first | exact keep_nil | refine keep_cons rfl ?_)) ?_
  intro n hn
  focus
    refine xc_seq ?_
    refine xc_seq ?_
    refine xc_region ?_
    refine xo_rd (rd_move rfl) rfl ?_
    refine xo_rd (rd_lss rfl rfl) rfl ?_
    refine xo_nil ?_
    refine xq_seq ?_
    refine xc_dec rfl (fun hn1 => ?_) (fun hn1 => ?_)
    refine xc_skip ?_
    refine xq_seq ?_
    rotate_left
    refine xc_exit ?_
    refine xq_then_exit ?_
    refine xq_then_exit ?_
    refine xq_block_hit ?_
    refine xq_seq ?_
    refine xc_seq ?_
    refine xc_region ?_
    refine xo_rd (rd_assign rfl) rfl ?_
    refine xo_nil ?_
    refine xq_seq ?_
    refine xc_seq ?_
    refine xc_region ?_
    refine xo_ef rfl (ef_makeSlice rfl rfl rfl (by omega) (by omega) (by omega) (by decide) fun r97 => ?_)
    refine xo_rd (rd_assign rfl) rfl ?_
    refine xo_nil ?_
    refine xq_seq ?_
    refine xc_seq ?_
    refine xc_region ?_
    refine xo_ef rfl (ef_slice1 rfl rfl rfl fun r98 => ?_)
    refine xo_rd (rd_build rfl rfl rfl) rfl ?_
    rotate_left
  · refine xc_seq (xc_block ?_)
    refine xc_join (ι := Nat × Nat × Nat) (fun _ => True) (fun j => [(j.1, .cells #[.slice (some ⟨j.2.1, 0, none⟩) ((n : Int) % 5 % 5).toNat 4, .slice (some ⟨j.2.2, 0, none⟩) ((n : Int) / 27 % 4).toNat 3] 25 (0, 0)), (j.2.1, .cells (ints .u64 (conN n)).toArray 22 (0, 0)), (j.2.2, .cells (ints .u64 (camN n)).toArray 22 (0, 0))]) (fun j => [(0, .bool false), (1, .int .i64 n), (2, .pointer (some ⟨j.1, 0, none⟩))]) ?_ ?_
    · skip
      focus
        refine xc_drawM [0, 1, 2, 0, 8, 16, 32, 0, 128, 256, 512, 0, 2048, 4096, 8192, 17476, 0, 65536, 131072, 294912, 0, 1048576, 2097152, 4194304, 0, 16777216, 33554432, 67108864, 142606336, 0, 536870912, 1073741824, 2415919104, 4295491584, 0, 34359738367] [0, 1, 2, 0, 8, 16, 32, 0, 128, 256, 512, 0, 2048, 4096, 8192, 17476, 0, 65536, 131072, 294912, 0, 1048576, 2097152, 4194304, 0, 16777216, 33554432, 67108864, 142606336, 0, 536870912, 1073741824, 2415919104, 4295491584, 0, 34359738367] [] (by kernel_rfl) (by kernel_rfl) (by kernel_rfl) ?_
        refine xm_take 0 (m' := 1) rfl (by kernel_rfl) (by first | exact Sb.refl | exact Sb.nil | (repeat (first | exact Sb.nil | exact Sb.refl | exact Sb.app0 | apply Sb.keep | apply Sb.keepApp | apply Sb.cons | apply Sb.app))) (rd_move rfl) rfl (by kernel_rfl) ?_
        refine xm_take 1 (m' := 3) rfl (by kernel_rfl) (by first | exact Sb.refl | exact Sb.nil | (repeat (first | exact Sb.nil | exact Sb.refl | exact Sb.app0 | apply Sb.keep | apply Sb.keepApp | apply Sb.cons | apply Sb.app))) (rd_remn rfl rfl (by omega) (by omega)) rfl (by kernel_rfl) ?_
        refine xm_take 2 (m' := 7) rfl (by kernel_rfl) (by first | exact Sb.refl | exact Sb.nil | (repeat (first | exact Sb.nil | exact Sb.refl | exact Sb.app0 | apply Sb.keep | apply Sb.keepApp | apply Sb.cons | apply Sb.app))) (rd_convn rfl (by omega) (by omega)) rfl (by kernel_rfl) ?_
        refine xm_take 3 (m' := 15) rfl (by kernel_rfl) (by first | exact Sb.refl | exact Sb.nil | (repeat (first | exact Sb.nil | exact Sb.refl | exact Sb.app0 | apply Sb.keep | apply Sb.keepApp | apply Sb.cons | apply Sb.app))) (rd_move rfl) rfl (by kernel_rfl) ?_
        refine xm_take 4 (m' := 31) rfl (by kernel_rfl) (by first | exact Sb.refl | exact Sb.nil | (repeat (first | exact Sb.nil | exact Sb.refl | exact Sb.app0 | apply Sb.keep | apply Sb.keepApp | apply Sb.cons | apply Sb.app))) (rd_remn rfl rfl (by omega) (by omega)) rfl (by kernel_rfl) ?_
        refine xm_take 5 (m' := 63) rfl (by kernel_rfl) (by first | exact Sb.refl | exact Sb.nil | (repeat (first | exact Sb.nil | exact Sb.refl | exact Sb.app0 | apply Sb.keep | apply Sb.keepApp | apply Sb.cons | apply Sb.app))) (rd_addn rfl rfl (by omega) (by omega)) rfl (by kernel_rfl) ?_
        refine xm_take 6 (m' := 127) rfl (by kernel_rfl) (by first | exact Sb.refl | exact Sb.nil | (repeat (first | exact Sb.nil | exact Sb.refl | exact Sb.app0 | apply Sb.keep | apply Sb.keepApp | apply Sb.cons | apply Sb.app))) (rd_convn rfl (by omega) (by omega)) rfl (by kernel_rfl) ?_
        refine xm_take 7 (m' := 255) rfl (by kernel_rfl) (by first | exact Sb.refl | exact Sb.nil | (repeat (first | exact Sb.nil | exact Sb.refl | exact Sb.app0 | apply Sb.keep | apply Sb.keepApp | apply Sb.cons | apply Sb.app))) (rd_move rfl) rfl (by kernel_rfl) ?_
        refine xm_take 8 (m' := 511) rfl (by kernel_rfl) (by first | exact Sb.refl | exact Sb.nil | (repeat (first | exact Sb.nil | exact Sb.refl | exact Sb.app0 | apply Sb.keep | apply Sb.keepApp | apply Sb.cons | apply Sb.app))) (rd_remn rfl rfl (by omega) (by omega)) rfl (by kernel_rfl) ?_
        refine xm_take 9 (m' := 1023) rfl (by kernel_rfl) (by first | exact Sb.refl | exact Sb.nil | (repeat (first | exact Sb.nil | exact Sb.refl | exact Sb.app0 | apply Sb.keep | apply Sb.keepApp | apply Sb.cons | apply Sb.app))) (rd_addn rfl rfl (by omega) (by omega)) rfl (by kernel_rfl) ?_
        refine xm_take 10 (m' := 2047) rfl (by kernel_rfl) (by first | exact Sb.refl | exact Sb.nil | (repeat (first | exact Sb.nil | exact Sb.refl | exact Sb.app0 | apply Sb.keep | apply Sb.keepApp | apply Sb.cons | apply Sb.app))) (rd_convn rfl (by omega) (by omega)) rfl (by kernel_rfl) ?_
        refine xm_take 11 (m' := 4095) rfl (by kernel_rfl) (by first | exact Sb.refl | exact Sb.nil | (repeat (first | exact Sb.nil | exact Sb.refl | exact Sb.app0 | apply Sb.keep | apply Sb.keepApp | apply Sb.cons | apply Sb.app))) (rd_move rfl) rfl (by kernel_rfl) ?_
        refine xm_take 12 (m' := 8191) rfl (by kernel_rfl) (by first | exact Sb.refl | exact Sb.nil | (repeat (first | exact Sb.nil | exact Sb.refl | exact Sb.app0 | apply Sb.keep | apply Sb.keepApp | apply Sb.cons | apply Sb.app))) (rd_remn rfl rfl (by omega) (by omega)) rfl (by kernel_rfl) ?_
        refine xm_take 13 (m' := 16383) rfl (by kernel_rfl) (by first | exact Sb.refl | exact Sb.nil | (repeat (first | exact Sb.nil | exact Sb.refl | exact Sb.app0 | apply Sb.keep | apply Sb.keepApp | apply Sb.cons | apply Sb.app))) (rd_addn rfl rfl (by omega) (by omega)) rfl (by kernel_rfl) ?_
        refine xm_take 14 (m' := 32767) rfl (by kernel_rfl) (by first | exact Sb.refl | exact Sb.nil | (repeat (first | exact Sb.nil | exact Sb.refl | exact Sb.app0 | apply Sb.keep | apply Sb.keepApp | apply Sb.cons | apply Sb.app))) (rd_convn rfl (by omega) (by omega)) rfl (by kernel_rfl) ?_
        refine xm_take 16 (m' := 98303) rfl (by kernel_rfl) (by first | exact Sb.refl | exact Sb.nil | (repeat (first | exact Sb.nil | exact Sb.refl | exact Sb.app0 | apply Sb.keep | apply Sb.keepApp | apply Sb.cons | apply Sb.app))) (rd_move rfl) rfl (by kernel_rfl) ?_
        refine xm_take 17 (m' := 229375) rfl (by kernel_rfl) (by first | exact Sb.refl | exact Sb.nil | (repeat (first | exact Sb.nil | exact Sb.refl | exact Sb.app0 | apply Sb.keep | apply Sb.keepApp | apply Sb.cons | apply Sb.app))) (rd_remn rfl rfl (by omega) (by omega)) rfl (by kernel_rfl) ?_
        refine xm_take 18 (m' := 491519) rfl (by kernel_rfl) (by first | exact Sb.refl | exact Sb.nil | (repeat (first | exact Sb.nil | exact Sb.refl | exact Sb.app0 | apply Sb.keep | apply Sb.keepApp | apply Sb.cons | apply Sb.app))) (rd_remn rfl rfl (by omega) (by omega)) rfl (by kernel_rfl) ?_
        refine xm_take 20 (m' := 1540095) rfl (by kernel_rfl) (by first | exact Sb.refl | exact Sb.nil | (repeat (first | exact Sb.nil | exact Sb.refl | exact Sb.app0 | apply Sb.keep | apply Sb.keepApp | apply Sb.cons | apply Sb.app))) (rd_move rfl) rfl (by kernel_rfl) ?_
        refine xm_take 21 (m' := 3637247) rfl (by kernel_rfl) (by first | exact Sb.refl | exact Sb.nil | (repeat (first | exact Sb.nil | exact Sb.refl | exact Sb.app0 | apply Sb.keep | apply Sb.keepApp | apply Sb.cons | apply Sb.app))) (rd_quon rfl rfl (by omega) (by omega) (by omega) (by omega)) rfl (by kernel_rfl) ?_
        refine xm_take 22 (m' := 7831551) rfl (by kernel_rfl) (by first | exact Sb.refl | exact Sb.nil | (repeat (first | exact Sb.nil | exact Sb.refl | exact Sb.app0 | apply Sb.keep | apply Sb.keepApp | apply Sb.cons | apply Sb.app))) (rd_remn rfl rfl (by omega) (by omega)) rfl (by kernel_rfl) ?_
        refine xm_take 23 (m' := 16220159) rfl (by kernel_rfl) (by first | exact Sb.refl | exact Sb.nil | (repeat (first | exact Sb.nil | exact Sb.refl | exact Sb.app0 | apply Sb.keep | apply Sb.keepApp | apply Sb.cons | apply Sb.app))) (rd_convn rfl (by omega) (by omega)) rfl (by kernel_rfl) ?_
        refine xm_take 24 (m' := 32997375) rfl (by kernel_rfl) (by first | exact Sb.refl | exact Sb.nil | (repeat (first | exact Sb.nil | exact Sb.refl | exact Sb.app0 | apply Sb.keep | apply Sb.keepApp | apply Sb.cons | apply Sb.app))) (rd_move rfl) rfl (by kernel_rfl) ?_
        refine xm_take 25 (m' := 66551807) rfl (by kernel_rfl) (by first | exact Sb.refl | exact Sb.nil | (repeat (first | exact Sb.nil | exact Sb.refl | exact Sb.app0 | apply Sb.keep | apply Sb.keepApp | apply Sb.cons | apply Sb.app))) (rd_quon rfl rfl (by omega) (by omega) (by omega) (by omega)) rfl (by kernel_rfl) ?_
        refine xm_take 26 (m' := 133660671) rfl (by kernel_rfl) (by first | exact Sb.refl | exact Sb.nil | (repeat (first | exact Sb.nil | exact Sb.refl | exact Sb.app0 | apply Sb.keep | apply Sb.keepApp | apply Sb.cons | apply Sb.app))) (rd_remn rfl rfl (by omega) (by omega)) rfl (by kernel_rfl) ?_
        refine xm_take 27 (m' := 267878399) rfl (by kernel_rfl) (by first | exact Sb.refl | exact Sb.nil | (repeat (first | exact Sb.nil | exact Sb.refl | exact Sb.app0 | apply Sb.keep | apply Sb.keepApp | apply Sb.cons | apply Sb.app))) (rd_convn rfl (by omega) (by omega)) rfl (by kernel_rfl) ?_
        refine xm_take 29 (m' := 804749311) rfl (by kernel_rfl) (by first | exact Sb.refl | exact Sb.nil | (repeat (first | exact Sb.nil | exact Sb.refl | exact Sb.app0 | apply Sb.keep | apply Sb.keepApp | apply Sb.cons | apply Sb.app))) (rd_move rfl) rfl (by kernel_rfl) ?_
        refine xm_take 30 (m' := 1878491135) rfl (by kernel_rfl) (by first | exact Sb.refl | exact Sb.nil | (repeat (first | exact Sb.nil | exact Sb.refl | exact Sb.app0 | apply Sb.keep | apply Sb.keepApp | apply Sb.cons | apply Sb.app))) (rd_quon rfl rfl (by omega) (by omega) (by omega) (by omega)) rfl (by kernel_rfl) ?_
        refine xm_take 31 (m' := 4025974783) rfl (by kernel_rfl) (by first | exact Sb.refl | exact Sb.nil | (repeat (first | exact Sb.nil | exact Sb.refl | exact Sb.app0 | apply Sb.keep | apply Sb.keepApp | apply Sb.cons | apply Sb.app))) (rd_remn rfl rfl (by omega) (by omega)) rfl (by kernel_rfl) ?_
        refine xm_three 15 28 34 (mi := 4026007551) (mk := 4294410239) (ml := 21205843967) rfl rfl rfl (by kernel_rfl) rfl rfl rfl (by kernel_rfl) (by kernel_rfl) (by kernel_rfl) (ef_buildL (T := 23) (len := 4) (s := 1) (cells := (ints .u64 (conN n)).toArray) rfl (by decide) (by decide) (by kernel_rfl) fun r30 => ⟨(by first | exact Sb.refl | exact Sb.nil | (repeat (first | exact Sb.nil | exact Sb.refl | exact Sb.app0 | apply Sb.keep | apply Sb.keepApp | apply Sb.cons | apply Sb.app))), ?_⟩) (ef_buildL (T := 23) (len := 3) (s := 1) (cells := (ints .u64 (camN n)).toArray) rfl (by decide) (by decide) (by kernel_rfl) fun r43 => ⟨(by first | exact Sb.refl | exact Sb.nil | (repeat (first | exact Sb.nil | exact Sb.refl | exact Sb.app0 | apply Sb.keep | apply Sb.keepApp | apply Sb.cons | apply Sb.app))), ?_⟩) (ef_alloc fun r2 => ⟨(by first | exact Sb.refl | exact Sb.nil | (repeat (first | exact Sb.nil | exact Sb.refl | exact Sb.app0 | apply Sb.keep | apply Sb.keepApp | apply Sb.cons | apply Sb.app))), ?_⟩)
        refine xm_take 19 (m' := 4026531839) rfl (by kernel_rfl) (by first | exact Sb.refl | exact Sb.nil | (repeat (first | exact Sb.nil | exact Sb.refl | exact Sb.app0 | apply Sb.keep | apply Sb.keepApp | apply Sb.cons | apply Sb.app))) (rd_sliceHi rfl rfl (by omega) (by omega)) rfl (by kernel_rfl) ?_
        refine xm_two 28 34 (mi := 4294967295) (mk := 21206401023) rfl rfl (by kernel_rfl) rfl rfl (by kernel_rfl) (by kernel_rfl) (ef_buildL (T := 23) (len := 3) (s := 1) (cells := (ints .u64 (camN n)).toArray) rfl (by decide) (by decide) (by kernel_rfl) fun r43 => ⟨(by first | exact Sb.refl | exact Sb.nil | (repeat (first | exact Sb.nil | exact Sb.refl | exact Sb.app0 | apply Sb.keep | apply Sb.keepApp | apply Sb.cons | apply Sb.app))), ?_⟩) (ef_alloc fun r2 => ⟨(by first | exact Sb.refl | exact Sb.nil | (repeat (first | exact Sb.nil | exact Sb.refl | exact Sb.app0 | apply Sb.keep | apply Sb.keepApp | apply Sb.cons | apply Sb.app))), ?_⟩)
        refine xm_take 32 (m' := 8589934591) rfl (by kernel_rfl) (by first | exact Sb.refl | exact Sb.nil | (repeat (first | exact Sb.nil | exact Sb.refl | exact Sb.app0 | apply Sb.keep | apply Sb.keepApp | apply Sb.cons | apply Sb.app))) (rd_sliceHi rfl rfl (by omega) (by omega)) rfl (by kernel_rfl) ?_
        refine xm_take 33 (m' := 17179869183) rfl (by kernel_rfl) (by first | exact Sb.refl | exact Sb.nil | (repeat (first | exact Sb.nil | exact Sb.refl | exact Sb.app0 | apply Sb.keep | apply Sb.keepApp | apply Sb.cons | apply Sb.app))) (rd_build rfl rfl rfl) rfl (by kernel_rfl) ?_
        refine xm_one 34 (m' := 34359738367) rfl (by kernel_rfl) rfl (by kernel_rfl) (ef_alloc fun r2 => ?_)
        refine ⟨(by first | exact Sb.refl | exact Sb.nil | (repeat (first | exact Sb.nil | exact Sb.refl | exact Sb.app0 | apply Sb.keep | apply Sb.keepApp | apply Sb.cons | apply Sb.app))), ?_⟩
        refine xm_one 35 (m' := 68719476735) rfl (by kernel_rfl) rfl (by kernel_rfl) (ef_storeB [] _ rfl rfl (by first | rfl | assumption) rfl rfl rfl ?_)
        refine ⟨(by first | exact Sb.refl | exact Sb.nil | (repeat (first | exact Sb.nil | exact Sb.refl | exact Sb.app0 | apply Sb.keep | apply Sb.keepApp | apply Sb.cons | apply Sb.app))), ?_⟩
        refine xm_done (by kernel_rfl) ?_
        rotate_left
        refine xm_one 28 (m' := 21474836479) rfl (by kernel_rfl) rfl (by kernel_rfl) (ef_buildL (T := 23) (len := 3) (s := 1) (cells := (ints .u64 (camN n)).toArray) rfl (by decide) (by decide) (by kernel_rfl) fun r43 => ?_)
        refine ⟨(by first | exact Sb.refl | exact Sb.nil | (repeat (first | exact Sb.nil | exact Sb.refl | exact Sb.app0 | apply Sb.keep | apply Sb.keepApp | apply Sb.cons | apply Sb.app))), ?_⟩
        refine xm_take 32 (m' := 25769803775) rfl (by kernel_rfl) (by first | exact Sb.refl | exact Sb.nil | (repeat (first | exact Sb.nil | exact Sb.refl | exact Sb.app0 | apply Sb.keep | apply Sb.keepApp | apply Sb.cons | apply Sb.app))) (rd_sliceHi rfl rfl (by omega) (by omega)) rfl (by kernel_rfl) ?_
        refine xm_take 33 (m' := 34359738367) rfl (by kernel_rfl) (by first | exact Sb.refl | exact Sb.nil | (repeat (first | exact Sb.nil | exact Sb.refl | exact Sb.app0 | apply Sb.keep | apply Sb.keepApp | apply Sb.cons | apply Sb.app))) (rd_build rfl rfl rfl) rfl (by kernel_rfl) ?_
        refine xm_one 35 (m' := 68719476735) rfl (by kernel_rfl) rfl (by kernel_rfl) (ef_storeB [_] _ rfl rfl (by first | rfl | assumption) rfl rfl rfl ?_)
        refine ⟨(by first | exact Sb.refl | exact Sb.nil | (repeat (first | exact Sb.nil | exact Sb.refl | exact Sb.app0 | apply Sb.keep | apply Sb.keepApp | apply Sb.cons | apply Sb.app))), ?_⟩
        refine xm_done (by kernel_rfl) ?_
        rotate_left
        refine xm_take 32 (m' := 8589377535) rfl (by kernel_rfl) (by first | exact Sb.refl | exact Sb.nil | (repeat (first | exact Sb.nil | exact Sb.refl | exact Sb.app0 | apply Sb.keep | apply Sb.keepApp | apply Sb.cons | apply Sb.app))) (rd_sliceHi rfl rfl (by omega) (by omega)) rfl (by kernel_rfl) ?_
        refine xm_two 15 34 (mi := 8589410303) (mk := 25769246719) rfl rfl (by kernel_rfl) rfl rfl (by kernel_rfl) (by kernel_rfl) (ef_buildL (T := 23) (len := 4) (s := 1) (cells := (ints .u64 (conN n)).toArray) rfl (by decide) (by decide) (by kernel_rfl) fun r30 => ⟨(by first | exact Sb.refl | exact Sb.nil | (repeat (first | exact Sb.nil | exact Sb.refl | exact Sb.app0 | apply Sb.keep | apply Sb.keepApp | apply Sb.cons | apply Sb.app))), ?_⟩) (ef_alloc fun r2 => ⟨(by first | exact Sb.refl | exact Sb.nil | (repeat (first | exact Sb.nil | exact Sb.refl | exact Sb.app0 | apply Sb.keep | apply Sb.keepApp | apply Sb.cons | apply Sb.app))), ?_⟩)
        refine xm_take 19 (m' := 8589934591) rfl (by kernel_rfl) (by first | exact Sb.refl | exact Sb.nil | (repeat (first | exact Sb.nil | exact Sb.refl | exact Sb.app0 | apply Sb.keep | apply Sb.keepApp | apply Sb.cons | apply Sb.app))) (rd_sliceHi rfl rfl (by omega) (by omega)) rfl (by kernel_rfl) ?_
        refine xm_take 33 (m' := 17179869183) rfl (by kernel_rfl) (by first | exact Sb.refl | exact Sb.nil | (repeat (first | exact Sb.nil | exact Sb.refl | exact Sb.app0 | apply Sb.keep | apply Sb.keepApp | apply Sb.cons | apply Sb.app))) (rd_build rfl rfl rfl) rfl (by kernel_rfl) ?_
        refine xm_one 34 (m' := 34359738367) rfl (by kernel_rfl) rfl (by kernel_rfl) (ef_alloc fun r2 => ?_)
        refine ⟨(by first | exact Sb.refl | exact Sb.nil | (repeat (first | exact Sb.nil | exact Sb.refl | exact Sb.app0 | apply Sb.keep | apply Sb.keepApp | apply Sb.cons | apply Sb.app))), ?_⟩
        refine xm_one 35 (m' := 68719476735) rfl (by kernel_rfl) rfl (by kernel_rfl) (ef_storeB [] _ rfl rfl (by first | rfl | assumption) rfl rfl rfl ?_)
        refine ⟨(by first | exact Sb.refl | exact Sb.nil | (repeat (first | exact Sb.nil | exact Sb.refl | exact Sb.app0 | apply Sb.keep | apply Sb.keepApp | apply Sb.cons | apply Sb.app))), ?_⟩
        refine xm_done (by kernel_rfl) ?_
        rotate_left
        refine xm_one 15 (m' := 25769279487) rfl (by kernel_rfl) rfl (by kernel_rfl) (ef_buildL (T := 23) (len := 4) (s := 1) (cells := (ints .u64 (conN n)).toArray) rfl (by decide) (by decide) (by kernel_rfl) fun r30 => ?_)
        refine ⟨(by first | exact Sb.refl | exact Sb.nil | (repeat (first | exact Sb.nil | exact Sb.refl | exact Sb.app0 | apply Sb.keep | apply Sb.keepApp | apply Sb.cons | apply Sb.app))), ?_⟩
        refine xm_take 19 (m' := 25769803775) rfl (by kernel_rfl) (by first | exact Sb.refl | exact Sb.nil | (repeat (first | exact Sb.nil | exact Sb.refl | exact Sb.app0 | apply Sb.keep | apply Sb.keepApp | apply Sb.cons | apply Sb.app))) (rd_sliceHi rfl rfl (by omega) (by omega)) rfl (by kernel_rfl) ?_
        refine xm_take 33 (m' := 34359738367) rfl (by kernel_rfl) (by first | exact Sb.refl | exact Sb.nil | (repeat (first | exact Sb.nil | exact Sb.refl | exact Sb.app0 | apply Sb.keep | apply Sb.keepApp | apply Sb.cons | apply Sb.app))) (rd_build rfl rfl rfl) rfl (by kernel_rfl) ?_
        refine xm_one 35 (m' := 68719476735) rfl (by kernel_rfl) rfl (by kernel_rfl) (ef_storeB [_] _ rfl rfl (by first | rfl | assumption) rfl rfl rfl ?_)
        refine ⟨(by first | exact Sb.refl | exact Sb.nil | (repeat (first | exact Sb.nil | exact Sb.refl | exact Sb.app0 | apply Sb.keep | apply Sb.keepApp | apply Sb.cons | apply Sb.app))), ?_⟩
        refine xm_done (by kernel_rfl) ?_
        rotate_left
        refine xm_two 15 28 (mi := 21205876735) (mk := 21474279423) rfl rfl (by kernel_rfl) rfl rfl (by kernel_rfl) (by kernel_rfl) (ef_buildL (T := 23) (len := 4) (s := 1) (cells := (ints .u64 (conN n)).toArray) rfl (by decide) (by decide) (by kernel_rfl) fun r30 => ⟨(by first | exact Sb.refl | exact Sb.nil | (repeat (first | exact Sb.nil | exact Sb.refl | exact Sb.app0 | apply Sb.keep | apply Sb.keepApp | apply Sb.cons | apply Sb.app))), ?_⟩) (ef_buildL (T := 23) (len := 3) (s := 1) (cells := (ints .u64 (camN n)).toArray) rfl (by decide) (by decide) (by kernel_rfl) fun r43 => ⟨(by first | exact Sb.refl | exact Sb.nil | (repeat (first | exact Sb.nil | exact Sb.refl | exact Sb.app0 | apply Sb.keep | apply Sb.keepApp | apply Sb.cons | apply Sb.app))), ?_⟩)
        refine xm_take 19 (m' := 21206401023) rfl (by kernel_rfl) (by first | exact Sb.refl | exact Sb.nil | (repeat (first | exact Sb.nil | exact Sb.refl | exact Sb.app0 | apply Sb.keep | apply Sb.keepApp | apply Sb.cons | apply Sb.app))) (rd_sliceHi rfl rfl (by omega) (by omega)) rfl (by kernel_rfl) ?_
        refine xm_one 28 (m' := 21474836479) rfl (by kernel_rfl) rfl (by kernel_rfl) (ef_buildL (T := 23) (len := 3) (s := 1) (cells := (ints .u64 (camN n)).toArray) rfl (by decide) (by decide) (by kernel_rfl) fun r43 => ?_)
        refine ⟨(by first | exact Sb.refl | exact Sb.nil | (repeat (first | exact Sb.nil | exact Sb.refl | exact Sb.app0 | apply Sb.keep | apply Sb.keepApp | apply Sb.cons | apply Sb.app))), ?_⟩
        refine xm_take 32 (m' := 25769803775) rfl (by kernel_rfl) (by first | exact Sb.refl | exact Sb.nil | (repeat (first | exact Sb.nil | exact Sb.refl | exact Sb.app0 | apply Sb.keep | apply Sb.keepApp | apply Sb.cons | apply Sb.app))) (rd_sliceHi rfl rfl (by omega) (by omega)) rfl (by kernel_rfl) ?_
        refine xm_take 33 (m' := 34359738367) rfl (by kernel_rfl) (by first | exact Sb.refl | exact Sb.nil | (repeat (first | exact Sb.nil | exact Sb.refl | exact Sb.app0 | apply Sb.keep | apply Sb.keepApp | apply Sb.cons | apply Sb.app))) (rd_build rfl rfl rfl) rfl (by kernel_rfl) ?_
        refine xm_one 35 (m' := 68719476735) rfl (by kernel_rfl) rfl (by kernel_rfl) (ef_storeB [_, _] _ rfl rfl (by first | rfl | assumption) rfl rfl rfl ?_)
        refine ⟨(by first | exact Sb.refl | exact Sb.nil | (repeat (first | exact Sb.nil | exact Sb.refl | exact Sb.app0 | apply Sb.keep | apply Sb.keepApp | apply Sb.cons | apply Sb.app))), ?_⟩
        refine xm_done (by kernel_rfl) ?_
        rotate_left
        refine xm_take 32 (m' := 25769246719) rfl (by kernel_rfl) (by first | exact Sb.refl | exact Sb.nil | (repeat (first | exact Sb.nil | exact Sb.refl | exact Sb.app0 | apply Sb.keep | apply Sb.keepApp | apply Sb.cons | apply Sb.app))) (rd_sliceHi rfl rfl (by omega) (by omega)) rfl (by kernel_rfl) ?_
        refine xm_one 15 (m' := 25769279487) rfl (by kernel_rfl) rfl (by kernel_rfl) (ef_buildL (T := 23) (len := 4) (s := 1) (cells := (ints .u64 (conN n)).toArray) rfl (by decide) (by decide) (by kernel_rfl) fun r30 => ?_)
        refine ⟨(by first | exact Sb.refl | exact Sb.nil | (repeat (first | exact Sb.nil | exact Sb.refl | exact Sb.app0 | apply Sb.keep | apply Sb.keepApp | apply Sb.cons | apply Sb.app))), ?_⟩
        refine xm_take 19 (m' := 25769803775) rfl (by kernel_rfl) (by first | exact Sb.refl | exact Sb.nil | (repeat (first | exact Sb.nil | exact Sb.refl | exact Sb.app0 | apply Sb.keep | apply Sb.keepApp | apply Sb.cons | apply Sb.app))) (rd_sliceHi rfl rfl (by omega) (by omega)) rfl (by kernel_rfl) ?_
        refine xm_take 33 (m' := 34359738367) rfl (by kernel_rfl) (by first | exact Sb.refl | exact Sb.nil | (repeat (first | exact Sb.nil | exact Sb.refl | exact Sb.app0 | apply Sb.keep | apply Sb.keepApp | apply Sb.cons | apply Sb.app))) (rd_build rfl rfl rfl) rfl (by kernel_rfl) ?_
        refine xm_one 35 (m' := 68719476735) rfl (by kernel_rfl) rfl (by kernel_rfl) (ef_storeB [_, _] _ rfl rfl (by first | rfl | assumption) rfl rfl rfl ?_)
        refine ⟨(by first | exact Sb.refl | exact Sb.nil | (repeat (first | exact Sb.nil | exact Sb.refl | exact Sb.app0 | apply Sb.keep | apply Sb.keepApp | apply Sb.cons | apply Sb.app))), ?_⟩
        refine xm_done (by kernel_rfl) ?_
        rotate_left
      all_goals refine xq_perm (L' := [(r2, .cells #[.slice (some ⟨r30, 0, none⟩) ((n : Int) % 5 % 5).toNat 4, .slice (some ⟨r43, 0, none⟩) ((n : Int) / 27 % 4).toNat 3] 25 (0, 0)), (r30, .cells (ints .u64 (conN n)).toArray 22 (0, 0)), (r43, .cells (ints .u64 (camN n)).toArray 22 (0, 0))]) ?_ (xq_joined (r2, r30, r43) trivial rfl (by repeat (first | exact keep_nil | refine keep_cons rfl ?_)))
      all_goals first
        | exact .refl _
        | exact .swap _ _ _
        | exact .cons _ (.swap _ _ _)
        | exact .trans (.swap _ _ _) (.cons _ (.swap _ _ _))
        | exact .trans (.cons _ (.swap _ _ _)) (.swap _ _ _)
        | exact .trans (.swap _ _ _) (.trans (.cons _ (.swap _ _ _)) (.swap _ _ _))
    · rintro ⟨r2, r30, r43⟩ _
      dsimp only
      obtain ⟨k1, hk1⟩ : ∃ k, k = ((n : Int) % 5 % 5).toNat := ⟨_, rfl⟩
      obtain ⟨k2, hk2⟩ : ∃ k, k = ((n : Int) / 27 % 4).toNat := ⟨_, rfl⟩
      rw [← hk1, ← hk2]
      have hl1 : ((conN n).take k1).length = k1 := by rw [List.length_take]; simp [conN]; omega
      have hl2 : ((camN n).take k2).length = k2 := by rw [List.length_take]; simp [camN]; omega
      have hu1 : ∀ x, x ∈ (conN n).take k1 → U x := fun x hx => by
        have := List.mem_of_mem_take hx
        simp only [conN, List.mem_cons, List.not_mem_nil, or_false] at this
        unfold U; omega
      have hu2 : ∀ x, x ∈ (camN n).take k2 → U x := fun x hx => by
        have := List.mem_of_mem_take hx
        simp only [camN, List.mem_cons, List.not_mem_nil, or_false] at this
        unfold U; omega
      have hr1 : ∀ (L : List Blk), (r30, Obj.cells (ints .u64 (conN n)).toArray 22 (0, 0)) ∈ L → Rs W L (some ⟨r30, 0, none⟩) (ints .u64 ((conN n).take k1)) := fun L h => by rw [ints_take]; exact (Rs.fresh h).take _
      have hr2 : ∀ (L : List Blk), (r43, Obj.cells (ints .u64 (camN n)).toArray 22 (0, 0)) ∈ L → Rs W L (some ⟨r43, 0, none⟩) (ints .u64 ((camN n).take k2)) := fun L h => by rw [ints_take]; exact (Rs.fresh h).take _
      generalize (conN n).take k1 = cs1 at *
      generalize (camN n).take k2 = cs2 at *
      generalize ints .u64 (conN n) = xs1 at *
      generalize ints .u64 (camN n) = xs2 at *
      focus
        refine xc_seq ?_
        refine xc_seq ?_
        refine xc_region ?_
        refine xo_rd (rd_fieldAddr rfl) rfl ?_
        refine xo_rd (rd_load1 rfl (Cl.o0 rfl)) rfl ?_
        refine xo_rd (rd_len rfl) rfl ?_
        refine xo_rd (rd_gtr rfl rfl) rfl ?_
        refine xo_nil ?_
        refine xq_seq ?_
        refine xc_dec rfl (fun hq1 => (by exfalso; omega)) (fun hq1 => ?_)
        refine xc_skip ?_
        refine xq_seq ?_
        refine xc_seq ?_
        refine xc_seq ?_
        refine xc_region ?_
        refine xo_rd (rd_assign rfl) rfl ?_
        refine xo_nil ?_
        refine xq_seq ?_
        refine xc_block ?_
      refine xc_loopI (ι := Nat) (fun k => k ≤ 26) (fun k => 26 - k) (fun _ => [(r2, .cells #[.slice (some ⟨r30, 0, none⟩) k1 4, .slice (some ⟨r43, 0, none⟩) k2 3] 25 (0, 0)), (r30, .cells xs1.toArray 22 (0, 0)), (r43, .cells xs2.toArray 22 (0, 0))]) (fun k => [(0, .bool false), (1, .int .i64 n), (2, .pointer (some ⟨r2, 0, none⟩)), (3, .int .u64 k)]) 0 (by omega) rfl (by repeat (first | exact keep_nil | refine keep_cons rfl ?_)) ?_
      intro k hk
      focus
        refine xc_seq ?_
        refine xc_seq ?_
        refine xc_region ?_
        refine xo_rd (rd_move rfl) rfl ?_
        refine xo_rd (rd_lss rfl rfl) rfl ?_
        refine xo_nil ?_
        refine xq_seq ?_
        refine xc_dec rfl (fun hk1 => ?_) (fun hk1 => ?_)
        refine xc_skip ?_
        refine xq_seq ?_
        refine xc_seq ?_
        refine xc_block ?_
        refine xc_seq ?_
        refine xc_region ?_
        refine xo_rd (rd_move rfl) rfl ?_
        refine xo_rd (rd_loadB rfl Kn.o0 (by rfl)) rfl ?_
        refine xo_ef rfl (ef_call rfl (XF.mono (xf_lawA k (some ⟨r30, 0, none⟩) (some ⟨r43, 0, none⟩) k1 4 k2 3 cs1 cs2 hl1 hl2 (hr1 _ (by simp)) (hr2 _ (by simp)) hu1 hu2 (by omega) (by omega) (by unfold U; omega)) ?_))
        rintro v L' ⟨rfl, rfl⟩
        refine xo_rd (rd_not rfl) rfl ?_
        refine xo_rd (rd_move rfl) rfl ?_
        refine xo_grd rfl rfl (rd_move rfl) rfl ?_
        refine xo_grd rfl rfl (rd_move rfl) rfl ?_
        refine xo_grd rfl rfl (rd_remn rfl rfl (by omega) (by omega)) rfl ?_
        refine xo_grd rfl rfl (rd_convn rfl (by omega) (by omega)) rfl ?_
        refine xo_grd rfl rfl (rd_loadB rfl Kn.o0 (by rfl)) rfl ?_
        refine xo_gef rfl rfl rfl (ef_call rfl (XF.mono (xf_lawF k ((n : Int) % 5) (some ⟨r30, 0, none⟩) (some ⟨r43, 0, none⟩) k1 4 k2 3 cs1 cs2 hl1 hl2 (hr1 _ (by simp)) (hr2 _ (by simp)) hu1 hu2 (by omega) (by omega) (by unfold U; omega) (by unfold U; omega)) ?_))
        rintro v L' ⟨rfl, rfl⟩
        refine xo_grd rfl rfl (rd_not rfl) rfl ?_
        refine xo_rd (rd_pickf rfl rfl) rfl ?_
        refine xo_nil ?_
        refine xq_seq ?_
        refine xc_condf rfl ?_
        refine xc_skip ?_
        refine xq_block ?_
        refine xq_seq ?_
        refine xc_region ?_
        refine xo_rd (rd_move rfl) rfl ?_
        refine xo_rd (rd_addn rfl rfl (by omega) (by omega)) rfl ?_
        refine xo_rd (rd_assign rfl) rfl ?_
        refine xo_nil ?_
        rotate_left
        refine xc_exit ?_
        refine xq_then_exit ?_
        refine xq_then_exit ?_
        refine xq_block_hit ?_
        refine xq_seq ?_
        refine xc_seq ?_
        refine xc_region ?_
        refine xo_rd (rd_move rfl) rfl ?_
        refine xo_rd (rd_remn rfl rfl (by omega) (by omega)) rfl ?_
        refine xo_rd (rd_subn rfl rfl (by omega) (by omega)) rfl ?_
        refine xo_rd (rd_move rfl) rfl ?_
        refine xo_rd (rd_remn rfl rfl (by omega) (by omega)) rfl ?_
        refine xo_rd (rd_eql rfl rfl) rfl ?_
        refine xo_rd (rd_move rfl) rfl ?_
        refine xo_rd (rd_remn rfl rfl (by omega) (by omega)) rfl ?_
        refine xo_rd (rd_eql rfl rfl) rfl ?_
        refine xo_ef rfl (ef_buildL (T := 30) (len := 5) (s := 1) (cells := (bls (onN n)).toArray) rfl (by decide) (by decide) (by kernel_rfl) fun r79 => ?_)
        refine xo_rd (rd_move rfl) rfl ?_
        refine xo_rd (rd_remn rfl rfl (by omega) (by omega)) rfl ?_
        refine xo_rd (rd_remn rfl rfl (by omega) (by omega)) rfl ?_
        refine xo_rd (rd_sliceHi rfl rfl (by omega) (by omega)) rfl ?_
        refine xo_rd (rd_build rfl rfl rfl) rfl ?_
        refine xo_ef rfl (ef_alloc fun r4 => ?_)
        refine xo_ef rfl (ef_storeB [] _ rfl rfl (by first | rfl | assumption) rfl rfl rfl ?_)
        refine xo_nil ?_
        refine xq_seq ?_
        rotate_left
      · exact xq_roundI (k + 1) (by omega) (by omega) rfl (by repeat (first | exact keep_nil | refine keep_cons rfl ?_))
      · obtain ⟨k3, hk3⟩ : ∃ k, k = ((n : Int) % 6 % 6).toNat := ⟨_, rfl⟩
        rw [← hk3]
        have hl3 : ((onN n).take k3).length = k3 := by rw [List.length_take]; simp [onN]; omega
        have hr3 : ∀ (L : List Blk), (r79, Obj.cells (bls (onN n)).toArray 4 (0, 0)) ∈ L → Rs W L (some ⟨r79, 0, none⟩) (bls ((onN n).take k3)) := fun L h => by rw [bls_take]; exact (Rs.fresh h).take _
        focus
          refine xc_seq ?_
          refine xc_region ?_
          refine xo_rd (rd_loadB rfl Kn.o2 (by rfl)) rfl ?_
          refine xo_rd (rd_loadB rfl Kn.o0 (by rfl)) rfl ?_
          refine xo_rd (rd_move rfl) rfl ?_
          refine xo_rd (rd_remn rfl rfl (by omega) (by omega)) rfl ?_
          refine xo_rd (rd_subn rfl rfl (by omega) (by omega)) rfl ?_
          refine xo_rd (rd_move rfl) rfl ?_
          refine xo_rd (rd_remn rfl rfl (by omega) (by omega)) rfl ?_
          refine xo_rd (rd_eql rfl rfl) rfl ?_
          refine xo_ef rfl (ef_buildL (T := 30) (len := 2) (s := 1) (cells := (bls [true, decide ((n : Int) % 3 = 0)]).toArray) rfl (by decide) (by decide) (by kernel_rfl) fun r93 => ?_)
          refine xo_rd (rd_build rfl rfl rfl) rfl ?_
          refine xo_ef rfl (ef_call rfl (XF.mono (xf_lawP (some ⟨r30, 0, none⟩) (some ⟨r43, 0, none⟩) (some ⟨r79, 0, none⟩) (some ⟨r93, 0, none⟩) k1 4 k2 3 k3 5 2 2 cs1 cs2 ((n : Int) % 7 - 2) ((n : Int) % 7 - 2) ((onN n).take k3) [true, decide ((n : Int) % 3 = 0)] hl1 hl2 hl3 rfl (hr1 _ (by simp)) (hr2 _ (by simp)) (hr3 _ (by simp)) (Rs.fresh (T := 4) (fr := (0, 0)) (by simp)) hu1 hu2 (by omega) (by omega) (by omega) (by omega)) ?_))
          rintro v L' ⟨rfl, rfl⟩
          refine xo_rd (rd_not rfl) rfl ?_
          refine xo_nil ?_
          refine xq_seq ?_
          refine xc_condf rfl ?_
          refine xc_skip ?_
          refine xq_block ?_
          refine xq_seq ?_
          refine xc_region ?_
          refine xo_rd (rd_move rfl) rfl ?_
          refine xo_rd (rd_addn rfl rfl (by omega) (by omega)) rfl ?_
          refine xo_rd (rd_assign rfl) rfl ?_
          refine xo_nil ?_
        exact xq_sub (List.nil_sublist _) (xq_roundI (n + 1) (by omega) (by omega) rfl (by repeat (first | exact keep_nil | refine keep_cons rfl ?_)))
  · skip
    refine xo_ef rfl (ef_buildL (T := 23) (s := 1) (cells := (ints .u64 [1500, 1499]).toArray) rfl (by decide) (by decide) (by kernel_rfl) fun r100 => ?_)
    focus
      refine xo_rd (rd_build rfl rfl rfl) rfl ?_
    refine xo_ef rfl (ef_buildL (T := 23) (s := 1) (cells := (ints .u64 [1, 2, 3, 4, 5]).toArray) rfl (by decide) (by decide) (by kernel_rfl) fun r102 => ?_)
    focus
      refine xo_rd (rd_build rfl rfl rfl) rfl ?_
      refine xo_rd (rd_move rfl) rfl ?_
      refine xo_rd (rd_build rfl rfl rfl) rfl ?_
      refine xo_rd (rd_move rfl) rfl ?_
      refine xo_rd (rd_sliceHi rfl rfl (by omega) (by omega)) rfl ?_
      refine xo_rd (rd_build rfl rfl rfl) rfl ?_
      refine xo_rd (rd_move rfl) rfl ?_
    refine xo_ef rfl (ef_buildL (T := 23) (s := 1) (cells := (ints .u64 [1500, 18446744073709551615]).toArray) rfl (by decide) (by decide) (by kernel_rfl) fun r110 => ?_)
    focus
      refine xo_rd (rd_move rfl) rfl ?_
      refine xo_rd (rd_move rfl) rfl ?_
    refine xo_ef rfl (ef_buildL (T := 23) (s := 1) (cells := (ints .u64 [18446744073709551615, 18446744073709551615, 1]).toArray) rfl (by decide) (by decide) (by kernel_rfl) fun r113 => ?_)
    focus
      refine xo_rd (rd_build rfl rfl rfl) rfl ?_
    refine xo_ef rfl (ef_buildL (T := 23) (s := 1) (cells := (ints .u64 [0, 0, 0, 0]).toArray) rfl (by decide) (by decide) (by kernel_rfl) fun r115 => ?_)
    focus
      refine xo_rd (rd_move rfl) rfl ?_
    refine xo_ef rfl (ef_buildL (T := 23) (s := 1) (cells := (ints .u64 [0, 18446744073709551615]).toArray) rfl (by decide) (by decide) (by kernel_rfl) fun r117 => ?_)
    focus
      refine xo_rd (rd_build rfl rfl rfl) rfl ?_
    obtain ⟨os, hos⟩ : ∃ os : List Cst, os = [⟨some ⟨r98, 0, none⟩, none, 1, 1, 0, 0, [1501], []⟩, ⟨some ⟨r100, 0, none⟩, none, 2, 2, 0, 0, [1500, 1499], []⟩, ⟨some ⟨r102, 0, none⟩, none, 5, 5, 0, 0, [1, 2, 3, 4, 5], []⟩, ⟨none, some ⟨r97, 0, none⟩, 0, 0, 33, 33, [], List.replicate 33 0⟩, ⟨none, some ⟨r97, 0, none⟩, 0, 0, 32, 33, [], (List.replicate 33 0).take 32⟩, ⟨some ⟨r110, 0, none⟩, some ⟨r113, 0, none⟩, 2, 2, 3, 3, [1500, 18446744073709551615], [18446744073709551615, 18446744073709551615, 1]⟩, ⟨some ⟨r115, 0, none⟩, some ⟨r117, 0, none⟩, 4, 4, 2, 2, [0, 0, 0, 0], [0, 18446744073709551615]⟩] := ⟨_, rfl⟩
    obtain ⟨Lb, hLb⟩ : ∃ Lb : List Blk, Lb = [(r117, .cells (ints .u64 [0, 18446744073709551615]).toArray 22 (0, 0)), (r115, .cells (ints .u64 [0, 0, 0, 0]).toArray 22 (0, 0)), (r113, .cells (ints .u64 [18446744073709551615, 18446744073709551615, 1]).toArray 22 (0, 0)), (r110, .cells (ints .u64 [1500, 18446744073709551615]).toArray 22 (0, 0)), (r102, .cells (ints .u64 [1, 2, 3, 4, 5]).toArray 22 (0, 0)), (r100, .cells (ints .u64 [1500, 1499]).toArray 22 (0, 0)), (r98, .cells (ints .u64 [1501]).toArray 22 (0, 0)), (r97, .cells (ints .u64 (List.replicate 33 0)).toArray 22 (0, 0))] := ⟨_, rfl⟩
    have hok : ∀ x, x ∈ os → x.Ok W Lb := by
      subst hos hLb
      have hF : ∀ r l, (r, Obj.cells (ints .u64 l).toArray 22 (0, 0)) ∈ ([(r117, .cells (ints .u64 [0, 18446744073709551615]).toArray 22 (0, 0)), (r115, .cells (ints .u64 [0, 0, 0, 0]).toArray 22 (0, 0)), (r113, .cells (ints .u64 [18446744073709551615, 18446744073709551615, 1]).toArray 22 (0, 0)), (r110, .cells (ints .u64 [1500, 18446744073709551615]).toArray 22 (0, 0)), (r102, .cells (ints .u64 [1, 2, 3, 4, 5]).toArray 22 (0, 0)), (r100, .cells (ints .u64 [1500, 1499]).toArray 22 (0, 0)), (r98, .cells (ints .u64 [1501]).toArray 22 (0, 0)), (r97, .cells (ints .u64 (List.replicate 33 0)).toArray 22 (0, 0))] : List Blk) → Rs W ([(r117, .cells (ints .u64 [0, 18446744073709551615]).toArray 22 (0, 0)), (r115, .cells (ints .u64 [0, 0, 0, 0]).toArray 22 (0, 0)), (r113, .cells (ints .u64 [18446744073709551615, 18446744073709551615, 1]).toArray 22 (0, 0)), (r110, .cells (ints .u64 [1500, 18446744073709551615]).toArray 22 (0, 0)), (r102, .cells (ints .u64 [1, 2, 3, 4, 5]).toArray 22 (0, 0)), (r100, .cells (ints .u64 [1500, 1499]).toArray 22 (0, 0)), (r98, .cells (ints .u64 [1501]).toArray 22 (0, 0)), (r97, .cells (ints .u64 (List.replicate 33 0)).toArray 22 (0, 0))]) (some ⟨r, 0, none⟩) (ints .u64 l) := fun r l h => Rs.fresh h
      intro x hx
      simp only [List.mem_cons, List.not_mem_nil, or_false] at hx
      rcases hx with rfl | rfl | rfl | rfl | rfl | rfl | rfl
      · exact ⟨rfl, rfl, hF _ _ (by simp), Rs.nil, by dsimp only; intro z hz; simp at hz; unfold U; omega, by simp, by dsimp only; omega, by dsimp only; omega⟩
      · exact ⟨rfl, rfl, hF _ _ (by simp), Rs.nil, by dsimp only; intro z hz; simp at hz; unfold U; omega, by simp, by dsimp only; omega, by dsimp only; omega⟩
      · exact ⟨rfl, rfl, hF _ _ (by simp), Rs.nil, by dsimp only; intro z hz; simp at hz; unfold U; omega, by simp, by dsimp only; omega, by dsimp only; omega⟩
      · exact ⟨rfl, by simp, Rs.nil, hF _ _ (by simp), by simp, by dsimp only; intro z hz; have := List.eq_of_mem_replicate hz; unfold U; omega, by dsimp only; omega, by dsimp only; omega⟩
      · exact ⟨rfl, by simp, Rs.nil, by rw [ints_take]; exact (hF _ _ (by simp)).take _, by simp, by dsimp only; intro z hz; have := List.eq_of_mem_replicate (List.mem_of_mem_take hz); unfold U; omega, by dsimp only; omega, by dsimp only; omega⟩
      · exact ⟨rfl, rfl, hF _ _ (by simp), hF _ _ (by simp), by dsimp only; intro z hz; simp at hz; unfold U; omega, by dsimp only; intro z hz; simp at hz; unfold U; omega, by dsimp only; omega, by dsimp only; omega⟩
      · exact ⟨rfl, rfl, hF _ _ (by simp), hF _ _ (by simp), by dsimp only; intro z hz; simp at hz; unfold U; omega, by dsimp only; intro z hz; simp at hz; unfold U; omega, by dsimp only; omega, by dsimp only; omega⟩
    have hol : os.length = 7 := by subst hos; rfl
    refine xo_perm (L' := Lb) (by subst hLb; exact .refl _) ?_
    refine xo_ef rfl (ef_buildL (T := 54) (s := 2) (cells := (os.flatMap Cst.enc).toArray) rfl (by decide) (by decide) (by rw [hos]; kernel_rfl) fun r119 => ?_)
    clear hos hLb
    focus
      refine xo_rd (rd_assign rfl) rfl ?_
      refine xo_nil ?_
      refine xq_seq ?_
      refine xc_seq ?_
      refine xc_seq ?_
      refine xc_region ?_
      refine xo_rd (rd_assign rfl) rfl ?_
      refine xo_nil ?_
      refine xq_seq ?_
      refine xc_block ?_
    refine xc_loopI (ι := Nat) (fun i => i ≤ 7) (fun i => 7 - i) (fun _ => (r119, .cells (os.flatMap Cst.enc).toArray 25 (0, 0)) :: Lb) (fun i => [(0, .bool false), (5, .int .u64 18446744073709551615), (7, .slice (some ⟨r119, 0, none⟩) 7 7), (8, .int .i64 i)]) 0 (by omega) rfl (by repeat (first | exact keep_nil | refine keep_cons rfl ?_)) ?_
    intro i hi
    focus
      refine xc_seq ?_
      refine xc_seq ?_
      refine xc_region ?_
      refine xo_rd (rd_move rfl) rfl ?_
      refine xo_rd (rd_move rfl) rfl ?_
      refine xo_rd (rd_len rfl) rfl ?_
      refine xo_rd (rd_lss rfl rfl) rfl ?_
      refine xo_nil ?_
      refine xq_seq ?_
      refine xc_dec rfl (fun hi1 => ?_) (fun hi1 => ?_)
      refine xc_skip ?_
      refine xq_seq ?_
      refine xc_seq ?_
      refine xc_block ?_
      refine xc_seq ?_
      refine xc_region ?_
      refine xo_rd (rd_move rfl) rfl ?_
      refine xo_rd (rd_subn rfl rfl (by omega) (by omega)) rfl ?_
      refine xo_rd (rd_move rfl) rfl ?_
      refine xo_ef rfl (ef_buildL (T := 23) (len := 6) (s := 1) (cells := (ints .u64 rts2).toArray) rfl (by decide) (by decide) (by kernel_rfl) fun r129 => ?_)
      refine xo_rd (rd_len rfl) rfl ?_
      refine xo_rd (rd_move rfl) rfl ?_
      refine xo_nil ?_
      refine xq_seq ?_
      refine xc_block ?_
      rotate_left
      refine xc_exit ?_
      refine xq_then_exit ?_
      refine xq_then_exit ?_
      refine xq_block_hit ?_
      refine xq_seq ?_
      refine xc_seq ?_
      refine xc_region ?_
      refine xo_ef rfl (ef_call rfl (XF.mono (xf_any (fun W => xf_works)) ?_))
      rintro v L' ⟨rfl, rfl⟩
      refine xo_rd (rd_assign rfl) rfl ?_
      refine xo_nil ?_
      refine xq_seq ?_
      refine xc_ret ?_
      exact xq_ret1 (.inl rfl) Try.results6 rfl (rfl)
    have hiw : i < os.length := by omega
    have hx := hok os[i] (List.getElem_mem _)
    obtain ⟨b', o', he, hc⟩ := (Rs.fresh (W := W) (L := (r129, .cells (ints .u64 rts2).toArray 22 (0, 0)) :: (r119, .cells (os.flatMap Cst.enc).toArray 25 (0, 0)) :: Lb) (b := r119) (vs := os.flatMap Cst.enc) (T := 25) (fr := (0, 0)) (by simp)).row Cst.len (by decide) hiw
    simp only [Option.some.injEq, Addr.mk.injEq, and_true] at he
    obtain ⟨rfl, rfl⟩ := he
    generalize os[i] = x at hx hc
    obtain ⟨p, q, n, c, m, d, ct, cm⟩ := x
    obtain ⟨k1, k2, hr, hq, hu, hv, hb, hb2⟩ := hx
    dsimp only at k1 k2 hr hq hu hv hb hb2
    refine xc_loopI (ι := Nat) (fun j => j ≤ 6) (fun j => 6 - j) (fun _ => (r129, .cells (ints .u64 rts2).toArray 22 (0, 0)) :: (r119, .cells (os.flatMap Cst.enc).toArray 25 (0, 0)) :: Lb) (fun j => [(0, .bool false), (5, .int .u64 18446744073709551615), (7, .slice (some ⟨r119, 0, none⟩) 7 7), (8, .int .i64 i), (129, .slice (some ⟨r129, 0, none⟩) 6 6), (130, .int .i64 6), (131, .int .i64 j)]) 0 (by omega) rfl (by repeat (first | exact keep_nil | refine keep_cons rfl ?_)) ?_
    intro j hj
    focus
      refine xc_seq ?_
      refine xc_region ?_
      refine xo_rd (rd_lss rfl rfl) rfl ?_
      refine xo_nil ?_
      refine xq_seq ?_
      refine xc_seq ?_
      refine xc_dec rfl (fun hj1 => ?_) (fun hj1 => ?_)
      refine xc_skip ?_
      refine xq_seq ?_
      rotate_left
      refine xc_exit ?_
      refine xq_then_exit ?_
      refine xq_then_exit ?_
      refine xq_block_hit ?_
      refine xq_block ?_
      refine xq_seq ?_
      refine xc_region ?_
      refine xo_rd (rd_move rfl) rfl ?_
      refine xo_rd (rd_addn rfl rfl (by omega) (by omega)) rfl ?_
      refine xo_rd (rd_assign rfl) rfl ?_
      refine xo_nil ?_
      rotate_left
    · have hj6 : j < rts2.length := by show j < 6; omega
      obtain ⟨b2', o2', he2, hc2⟩ := (Rs.fresh (W := W) (L := (r129, .cells (ints .u64 rts2).toArray 22 (0, 0)) :: (r119, .cells (os.flatMap Cst.enc).toArray 25 (0, 0)) :: Lb) (b := r129) (vs := ints .u64 rts2) (T := 22) (fr := (0, 0)) (by simp)).int hj6
      simp only [Option.some.injEq, Addr.mk.injEq, and_true] at he2
      obtain ⟨rfl, rfl⟩ := he2
      have hU := rts2_U _ (List.getElem_mem hj6)
      generalize rts2[j] = rate at hU hc2
      focus
        refine xc_seq ?_
        refine xc_block ?_
        refine xc_seq ?_
        refine xc_region ?_
        refine xo_rd (rd_indexAddr rfl rfl (by omega) (by omega)) rfl ?_
        refine xo_rd (rd_load1 rfl (by simpa using hc2)) rfl ?_
        refine xo_rd (rd_assign rfl) rfl ?_
        refine xo_nil ?_
        refine xq_seq ?_
        refine xc_seq ?_
        refine xc_drawML [0, 0, 0, 6, 8, 17, 32, 96, 128, 128, 128, 128, 3200, 4224, 9088, 16512, 32896, 81920, 131072, 131072, 917504, 1179648, 131072, 4325376, 131072, 27394048, 33685504, 67239936] [0, 0, 0, 6, 8, 17, 32, 96, 128, 128, 128, 128, 3200, 4224, 9088, 16512, 32896, 81920, 131072, 131072, 917504, 1179648, 131072, 4325376, 131072, 27394048, 33685504, 67239936] (by kernel_rfl) (by kernel_rfl) (by kernel_rfl) ?_
        refine xm_take 0 (m' := 1) rfl (by kernel_rfl) (by first | exact Sb.refl | exact Sb.nil | (repeat (first | exact Sb.nil | exact Sb.refl | exact Sb.app0 | apply Sb.keep | apply Sb.keepApp | apply Sb.cons | apply Sb.app))) (rd_move rfl) rfl (by kernel_rfl) ?_
        refine xm_take 1 (m' := 3) rfl (by kernel_rfl) (by first | exact Sb.refl | exact Sb.nil | (repeat (first | exact Sb.nil | exact Sb.refl | exact Sb.app0 | apply Sb.keep | apply Sb.keepApp | apply Sb.cons | apply Sb.app))) (rd_move rfl) rfl (by kernel_rfl) ?_
        refine xm_take 2 (m' := 7) rfl (by kernel_rfl) (by first | exact Sb.refl | exact Sb.nil | (repeat (first | exact Sb.nil | exact Sb.refl | exact Sb.app0 | apply Sb.keep | apply Sb.keepApp | apply Sb.cons | apply Sb.app))) (rd_move rfl) rfl (by kernel_rfl) ?_
        refine xm_take 3 (m' := 15) rfl (by kernel_rfl) (by first | exact Sb.refl | exact Sb.nil | (repeat (first | exact Sb.nil | exact Sb.refl | exact Sb.app0 | apply Sb.keep | apply Sb.keepApp | apply Sb.cons | apply Sb.app))) (rd_indexAddr rfl rfl (by omega) (by omega)) rfl (by kernel_rfl) ?_
        refine xm_take 4 (m' := 31) rfl (by kernel_rfl) (by first | exact Sb.refl | exact Sb.nil | (repeat (first | exact Sb.nil | exact Sb.refl | exact Sb.app0 | apply Sb.keep | apply Sb.keepApp | apply Sb.cons | apply Sb.app))) (rd_loadA (vs := [.slice p n c, .slice q m d]) rfl rfl hc) rfl (by kernel_rfl) ?_
        refine xm_one 5 (m' := 63) rfl (by kernel_rfl) rfl (by kernel_rfl) (ef_call rfl (XF.mono (xf_lawA rate p q n c m d ct cm k1 k2 hr.skip.skip hq.skip.skip hu hv hb hb2 hU) ?_))
        rintro v L' ⟨rfl, rfl⟩
        refine ⟨(by first | exact Sb.refl | exact Sb.nil | (repeat (first | exact Sb.nil | exact Sb.refl | exact Sb.app0 | apply Sb.keep | apply Sb.keepApp | apply Sb.cons | apply Sb.app))), ?_⟩
        refine xm_take 6 (m' := 127) rfl (by kernel_rfl) (by first | exact Sb.refl | exact Sb.nil | (repeat (first | exact Sb.nil | exact Sb.refl | exact Sb.app0 | apply Sb.keep | apply Sb.keepApp | apply Sb.cons | apply Sb.app))) (rd_not rfl) rfl (by kernel_rfl) ?_
        refine xm_take 7 (m' := 255) rfl (by kernel_rfl) (by first | exact Sb.refl | exact Sb.nil | (repeat (first | exact Sb.nil | exact Sb.refl | exact Sb.app0 | apply Sb.keep | apply Sb.keepApp | apply Sb.cons | apply Sb.app))) (rd_move rfl) rfl (by kernel_rfl) ?_
        refine xm_gtake 8 (m' := 511) rfl (by kernel_rfl) (by first | exact Sb.refl | exact Sb.nil | (repeat (first | exact Sb.nil | exact Sb.refl | exact Sb.app0 | apply Sb.keep | apply Sb.keepApp | apply Sb.cons | apply Sb.app))) rfl rfl (rd_move rfl) rfl (by kernel_rfl) ?_
        refine xm_gtake 9 (m' := 1023) rfl (by kernel_rfl) (by first | exact Sb.refl | exact Sb.nil | (repeat (first | exact Sb.nil | exact Sb.refl | exact Sb.app0 | apply Sb.keep | apply Sb.keepApp | apply Sb.cons | apply Sb.app))) rfl rfl (rd_move rfl) rfl (by kernel_rfl) ?_
        refine xm_gtake 10 (m' := 2047) rfl (by kernel_rfl) (by first | exact Sb.refl | exact Sb.nil | (repeat (first | exact Sb.nil | exact Sb.refl | exact Sb.app0 | apply Sb.keep | apply Sb.keepApp | apply Sb.cons | apply Sb.app))) rfl rfl (rd_move rfl) rfl (by kernel_rfl) ?_
        refine xm_gtake 11 (m' := 4095) rfl (by kernel_rfl) (by first | exact Sb.refl | exact Sb.nil | (repeat (first | exact Sb.nil | exact Sb.refl | exact Sb.app0 | apply Sb.keep | apply Sb.keepApp | apply Sb.cons | apply Sb.app))) rfl rfl (rd_move rfl) rfl (by kernel_rfl) ?_
        refine xm_gtake 12 (m' := 8191) rfl (by kernel_rfl) (by first | exact Sb.refl | exact Sb.nil | (repeat (first | exact Sb.nil | exact Sb.refl | exact Sb.app0 | apply Sb.keep | apply Sb.keepApp | apply Sb.cons | apply Sb.app))) rfl rfl (rd_indexAddr rfl rfl (by omega) (by omega)) rfl (by kernel_rfl) ?_
        refine xm_gtake 13 (m' := 16383) rfl (by kernel_rfl) (by first | exact Sb.refl | exact Sb.nil | (repeat (first | exact Sb.nil | exact Sb.refl | exact Sb.app0 | apply Sb.keep | apply Sb.keepApp | apply Sb.cons | apply Sb.app))) rfl rfl (rd_loadA (vs := [.slice p n c, .slice q m d]) rfl rfl hc) rfl (by kernel_rfl) ?_
        refine xm_gone 14 (m' := 32767) rfl (by kernel_rfl) rfl rfl rfl (by kernel_rfl) (ef_call rfl (XF.mono (xf_lawF rate 18446744073709551615 p q n c m d ct cm k1 k2 hr.skip.skip hq.skip.skip hu hv hb hb2 hU (by unfold U; omega)) ?_))
        rintro v L' ⟨rfl, rfl⟩
        refine ⟨(by first | exact Sb.refl | exact Sb.nil | (repeat (first | exact Sb.nil | exact Sb.refl | exact Sb.app0 | apply Sb.keep | apply Sb.keepApp | apply Sb.cons | apply Sb.app))), ?_⟩
        refine xm_gtake 15 (m' := 65535) rfl (by kernel_rfl) (by first | exact Sb.refl | exact Sb.nil | (repeat (first | exact Sb.nil | exact Sb.refl | exact Sb.app0 | apply Sb.keep | apply Sb.keepApp | apply Sb.cons | apply Sb.app))) rfl rfl (rd_not rfl) rfl (by kernel_rfl) ?_
        refine xm_take 16 (m' := 131071) rfl (by kernel_rfl) (by first | exact Sb.refl | exact Sb.nil | (repeat (first | exact Sb.nil | exact Sb.refl | exact Sb.app0 | apply Sb.keep | apply Sb.keepApp | apply Sb.cons | apply Sb.app))) (rd_pickf rfl rfl) rfl (by kernel_rfl) ?_
        refine xm_take 17 (m' := 262143) rfl (by kernel_rfl) (by first | exact Sb.refl | exact Sb.nil | (repeat (first | exact Sb.nil | exact Sb.refl | exact Sb.app0 | apply Sb.keep | apply Sb.keepApp | apply Sb.cons | apply Sb.app))) (rd_move rfl) rfl (by kernel_rfl) ?_
        refine xm_gtake 18 (m' := 524287) rfl (by kernel_rfl) (by first | exact Sb.refl | exact Sb.nil | (repeat (first | exact Sb.nil | exact Sb.refl | exact Sb.app0 | apply Sb.keep | apply Sb.keepApp | apply Sb.cons | apply Sb.app))) rfl rfl (rd_move rfl) rfl (by kernel_rfl) ?_
        refine xm_gtake 19 (m' := 1048575) rfl (by kernel_rfl) (by first | exact Sb.refl | exact Sb.nil | (repeat (first | exact Sb.nil | exact Sb.refl | exact Sb.app0 | apply Sb.keep | apply Sb.keepApp | apply Sb.cons | apply Sb.app))) rfl rfl (rd_move rfl) rfl (by kernel_rfl) ?_
        refine xm_gtake 20 (m' := 2097151) rfl (by kernel_rfl) (by first | exact Sb.refl | exact Sb.nil | (repeat (first | exact Sb.nil | exact Sb.refl | exact Sb.app0 | apply Sb.keep | apply Sb.keepApp | apply Sb.cons | apply Sb.app))) rfl rfl (rd_indexAddr rfl rfl (by omega) (by omega)) rfl (by kernel_rfl) ?_
        refine xm_gtake 21 (m' := 4194303) rfl (by kernel_rfl) (by first | exact Sb.refl | exact Sb.nil | (repeat (first | exact Sb.nil | exact Sb.refl | exact Sb.app0 | apply Sb.keep | apply Sb.keepApp | apply Sb.cons | apply Sb.app))) rfl rfl (rd_loadA (vs := [.slice p n c, .slice q m d]) rfl rfl hc) rfl (by kernel_rfl) ?_
        refine xm_gtake 24 (m' := 20971519) rfl (by kernel_rfl) (by first | exact Sb.refl | exact Sb.nil | (repeat (first | exact Sb.nil | exact Sb.refl | exact Sb.app0 | apply Sb.keep | apply Sb.keepApp | apply Sb.cons | apply Sb.app))) rfl rfl (rd_build rfl rfl rfl) rfl (by kernel_rfl) ?_
        refine xm_gone 22 (m' := 25165823) rfl (by kernel_rfl) rfl rfl rfl (by kernel_rfl) (ef_makeSlice rfl rfl rfl (by omega) (by omega) (by omega) (by decide) fun r157 => ?_)
        refine ⟨(by first | exact Sb.refl | exact Sb.nil | (repeat (first | exact Sb.nil | exact Sb.refl | exact Sb.app0 | apply Sb.keep | apply Sb.keepApp | apply Sb.cons | apply Sb.app))), ?_⟩
        refine xm_gtake 23 (m' := 33554431) rfl (by kernel_rfl) (by first | exact Sb.refl | exact Sb.nil | (repeat (first | exact Sb.nil | exact Sb.refl | exact Sb.app0 | apply Sb.keep | apply Sb.keepApp | apply Sb.cons | apply Sb.app))) rfl rfl (rd_build rfl rfl rfl) rfl (by kernel_rfl) ?_
        refine xm_gone 25 (m' := 67108863) rfl (by kernel_rfl) rfl rfl rfl (by kernel_rfl) (ef_call rfl (XF.mono (xf_lawP p q (some ⟨r157, 0, none⟩) none n c m d 40 40 0 0 ct cm 9 (-9) (List.replicate 40 false) [] k1 k2 (by simp) rfl hr.skip.skip.skip hq.skip.skip.skip (Rs.fresh (T := 4) (fr := (0, 0)) (by rw [← rep_bls]; exact List.Mem.head _)) Rs.nil hu hv hb hb2 (by omega) (by omega)) ?_))
        rintro v L' ⟨rfl, rfl⟩
        refine ⟨(by first | exact Sb.refl | exact Sb.nil | (repeat (first | exact Sb.nil | exact Sb.refl | exact Sb.app0 | apply Sb.keep | apply Sb.keepApp | apply Sb.cons | apply Sb.app))), ?_⟩
        refine xm_gtake 26 (m' := 134217727) rfl (by kernel_rfl) (by first | exact Sb.refl | exact Sb.nil | (repeat (first | exact Sb.nil | exact Sb.refl | exact Sb.app0 | apply Sb.keep | apply Sb.keepApp | apply Sb.cons | apply Sb.app))) rfl rfl (rd_not rfl) rfl (by kernel_rfl) ?_
        refine xm_take 27 (m' := 268435455) rfl (by kernel_rfl) (by first | exact Sb.refl | exact Sb.nil | (repeat (first | exact Sb.nil | exact Sb.refl | exact Sb.app0 | apply Sb.keep | apply Sb.keepApp | apply Sb.cons | apply Sb.app))) (rd_pickf rfl rfl) rfl (by kernel_rfl) ?_
        refine xm_done (by kernel_rfl) ?_
        refine xq_seq ?_
        refine xc_condf rfl ?_
        refine xc_skip ?_
        refine xq_block ?_
        refine xq_seq ?_
        refine xc_region ?_
        refine xo_rd (rd_addn rfl rfl (by omega) (by omega)) rfl ?_
        refine xo_rd (rd_move rfl) rfl ?_
        refine xo_nil ?_
      exact xq_tail (xq_roundI (j + 1) (by omega) (by omega) rfl (by repeat (first | exact keep_nil | refine keep_cons rfl ?_)))
    · exact xq_tail (xq_roundI (i + 1) (by omega) (by omega) rfl (by repeat (first | exact keep_nil | refine keep_cons rfl ?_)))
end Go.Proofs.Ytnghandgghfloaa.X
