/-
  BudgetAllocates: a walk of my own.
-/
import Derived.Test.YtnghandgghfloaaB3
namespace Go.Proofs.Ytnghandgghfloaa.X
open Go Go.RowKit
set_option linter.unusedVariables false
set_option linter.unusedSimpArgs false
theorem xf_rsame_self {W : World} {L : List Blk} (ca : Int) (p q : Option Addr) (n c d : Nat) (a : List Bool) (hn : a.length = n) (hr : Rs W L p (bls a)) (hq : Rs W L q (bls a)) (hb : n ≤ 9223372036854775807) : XF Try.prog W 12 #[.agg #[.int .i64 ca, .slice p n c], .agg #[.int .i64 ca, .slice q n d]] L (fun v L' => v = .bool true ∧ L' = L) :=
  (xf_rsame ca ca p q n c n d a a hn hn hr hq hb).mono fun v L' ⟨h1, h2⟩ => ⟨by rw [h1]; simp, h2⟩
theorem bls_set (bs : List Bool) (k : Nat) (v : Bool) (h : k < bs.length) : (bls bs).take (k * 1) ++ (Value.bool v).cells.toList ++ (bls bs).drop ((k + 1) * 1) = bls (bs.set k v) := by
  rw [Nat.mul_one, Nat.mul_one, List.set_eq_take_append_cons_drop, if_pos h]
  simp [bls, Value.cells]
theorem bls_cell {W : World} {L l : List Blk} {b m c : Nat} {bs : List Bool} (hO : SlO 1 4 (.slice (some ⟨b, 0, none⟩) m c) m (bls bs) l) (hl : ∀ z, z ∈ l → z ∈ L) (k : Nat) (hk : k < bs.length) : Cl W L b (0 + (k : Int).toNat * 1) (.bool bs[k]) := by
  obtain ⟨b', o', he, hc⟩ := (hO.rs hl : Rs W L _ _).bool hk
  simp only [Option.some.injEq, Addr.mk.injEq] at he
  obtain ⟨rfl, rfl, _⟩ := he
  simpa using hc
theorem perm_end2 (a b c : List Blk) : (a ++ (b ++ c)).Perm (c ++ (a ++ b)) := by rw [← List.append_assoc]; exact List.perm_append_comm
set_option maxHeartbeats 4000000 in
theorem xf_BudgetAllocates {W : World} (rate : Int) (p q : Option Addr) (n c m d : Nat) (ct cm : List Int) (hn : ct.length = n) (hm : cm.length = m) (hr : Rs W [] p (ints .u64 ct)) (hq : Rs W [] q (ints .u64 cm)) (hU : ∀ x, x ∈ ct → U x) (hU2 : ∀ x, x ∈ cm → U x) (hb : n ≤ 9223372036854775807) (hb2 : m ≤ 9223372036854775807) (h0 : U rate) :
    XF Try.prog W 3 #[.int .u64 rate, .agg #[.slice p n c, .slice q m d]] [] (fun v L' => v = .bool true) := by
  refine xf_enter (args := [_, _]) Try.func3 rfl Try.ntmps3 rfl ?_
  have hr' : ∀ L, Rs W L p (ints .u64 ct) := fun L => hr.nilL
  have hq' : ∀ L, Rs W L q (ints .u64 cm) := fun L => hq.nilL
  have hz32 := zA_len ct cm rate h0.1
  focus
    refine xc_seq ?_
    refine xc_region ?_
    refine xo_ef rfl (ef_box rfl fun r3 => ?_)
    refine xo_rd (rd_assign rfl) rfl ?_
    refine xo_nil ?_
    refine xq_seq ?_
    refine xc_seq ?_
    refine xc_seq ?_
    refine xc_region ?_
    refine xo_rd (rd_loadB rfl Kn.o0 (by rfl)) rfl ?_
    refine xo_ef rfl (ef_call rfl (XF.mono (xf_few p q n c m d hb hb2) ?_))
    rintro v L' ⟨⟨b, rfl, hbf⟩, rfl⟩
    refine xo_rd (rd_not rfl) rfl ?_
    refine xo_nil ?_
    refine xq_seq ?_
    refine xc_cond rfl (fun hh1 => ?_) (fun hh1 => ?_)
    refine xc_seq ?_
    refine xc_region ?_
    refine xo_ef rfl (ef_call rfl (XF.mono (xf_any (fun W => xf_works)) ?_))
    rintro v L' ⟨rfl, rfl⟩
    refine xo_rd (rd_assign rfl) rfl ?_
    refine xo_nil ?_
    refine xq_seq ?_
    refine xc_ret ?_
    refine xq_then_ret ?_
    exact xq_ret1 (.inl rfl) Try.results3 rfl (rfl)
    refine xc_skip ?_
    refine xq_seq ?_
  have hbt : b = true := by cases b <;> simp_all
  have hnm := hbf.1 hbt
  focus
    refine xc_seq ?_
    refine xc_region ?_
    refine xo_rd (rd_loadB rfl Kn.o0 (by rfl)) rfl ?_
    refine xo_ef rfl (ef_call rfl (XF.mono (xf_costs p q n c m d ct cm hn hm (hr' _) (hq' _) (by omega) (by omega)) ?_))
    rintro v L' ⟨p', q', c', d', l1, l2, rfl, hO1, hO2, rfl⟩
    refine xo_perm (perm_end2 l2 l1 _) ?_
    refine xo_ef rfl (ef_alloc fun r5 => ?_)
    refine xo_ef rfl (ef_storeB [] _ rfl rfl (by first | rfl | assumption) rfl rfl rfl ?_)
    refine xo_nil ?_
    refine xq_seq ?_
    refine xc_seq ?_
    refine xc_region ?_
    refine xo_rd (rd_move rfl) rfl ?_
    refine xo_rd (rd_loadB rfl Kn.o0 (by rfl)) rfl ?_
    refine xo_ef rfl (ef_call rfl (XF.mono (xf_rallocU rate p' q' n c' m d' ct cm hn hm (hO1.rs (by intro z hz; simp [hz])) (hO2.rs (by intro z hz; simp [hz])) hU hU2 (by omega) (by omega) h0.1) ?_))
    rintro v L' ⟨s3, k3, l3, rfl, hO3, rfl⟩
    refine xo_perm List.perm_append_comm ?_
    refine xo_rd (rd_move rfl) rfl ?_
    refine xo_rd (rd_extract rfl rfl) rfl ?_
    refine xo_rd (rd_extract rfl rfl) rfl ?_
    refine xo_ef rfl (ef_alloc fun r6 => ?_)
    refine xo_ef rfl (ef_storeB [] _ rfl rfl (by first | rfl | assumption) rfl rfl rfl ?_)
    refine xo_rd (rd_assign rfl) rfl ?_
    refine xo_nil ?_
    refine xq_seq ?_
    refine xc_seq ?_
    refine xc_seq ?_
    refine xc_region ?_
    refine xo_rd (rd_assign rfl) rfl ?_
    refine xo_nil ?_
    refine xq_seq ?_
    refine xc_block ?_
  refine xc_loopI (ι := Nat) (fun i => i ≤ 2) (fun i => 2 - i) (fun _ => (r6, .cells #[.int .i64 (zA ct cm rate).1, .slice s3 (zA ct cm rate).2.length k3] 32 (0, 0)) :: (r5, .cells #[.slice p' n c', .slice q' m d'] 28 (0, 0)) :: (r3, .cells #[.slice p n c, .slice q m d] 25 (0, 0)) :: ((l2 ++ l1) ++ l3)) (fun i => [(0, .int .u64 rate), (3, .pointer (some ⟨r3, 0, none⟩)), (4, .bool false), (5, .pointer (some ⟨r5, 0, none⟩)), (6, .pointer (some ⟨r6, 0, none⟩)), (7, .int .i64 (eA ct cm)), (8, .int .i64 i)]) 0 (by omega) rfl (by repeat (first | exact keep_nil | refine keep_cons rfl ?_)) ?_
  intro i hi
  focus
    refine xc_seq ?_
    refine xc_seq ?_
    refine xc_region ?_
    refine xo_rd (rd_move rfl) rfl ?_
    refine xo_rd (rd_lss rfl rfl) rfl ?_
    refine xo_nil ?_
    refine xq_seq ?_
    refine xc_dec rfl (fun hi1 => ?_) (fun hi1 => ?_)
    refine xc_skip ?_
    refine xq_seq ?_
    refine xc_seq ?_
    refine xc_block ?_
    refine xc_seq ?_
    refine xc_region ?_
    refine xo_rd (rd_move rfl) rfl ?_
    refine xo_rd (rd_loadB rfl Kn.o2 (by rfl)) rfl ?_
    refine xo_ef rfl (ef_call rfl (XF.mono (xf_allocU rate p q n c m d ct cm hn hm (hr' _) (hq' _) hU hU2 (by omega) (by omega) h0.1) ?_))
    rintro v L' ⟨s4, k4, l4, rfl, hO4, rfl⟩
    refine xo_perm List.perm_append_comm ?_
    refine xo_rd (rd_move rfl) rfl ?_
    refine xo_rd (rd_extract rfl rfl) rfl ?_
    refine xo_rd (rd_extract rfl rfl) rfl ?_
    refine xo_ef rfl (ef_alloc fun r9 => ?_)
    refine xo_ef rfl (ef_storeB [] _ rfl rfl (by first | rfl | assumption) rfl rfl rfl ?_)
    refine xo_rd (rd_assign rfl) rfl ?_
    refine xo_nil ?_
    refine xq_seq ?_
    rotate_left
    refine xc_exit ?_
    refine xq_then_exit ?_
    refine xq_then_exit ?_
    refine xq_block_hit ?_
    refine xq_seq ?_
    refine xc_seq ?_
    refine xc_seq ?_
    refine xc_region ?_
    refine xo_rd (rd_assign rfl) rfl ?_
    refine xo_nil ?_
    refine xq_seq ?_
    refine xc_block ?_
    rotate_left
  · skip
    focus
      refine xc_seq ?_
      refine xc_seq ?_
      refine xc_drawML [0, 0, 3, 4, 8, 24, 8, 104, 136, 264] [0, 0, 3, 4, 8, 24, 8, 104, 136, 264] (by kernel_rfl) (by kernel_rfl) (by kernel_rfl) ?_
      refine xm_take 0 (m' := 1) rfl (by kernel_rfl) (by first | exact Sb.refl | exact Sb.nil | (repeat (first | exact Sb.nil | exact Sb.refl | exact Sb.app0 | apply Sb.keep | apply Sb.keepApp | apply Sb.cons | apply Sb.app))) (rd_move rfl) rfl (by kernel_rfl) ?_
      refine xm_take 1 (m' := 3) rfl (by kernel_rfl) (by first | exact Sb.refl | exact Sb.nil | (repeat (first | exact Sb.nil | exact Sb.refl | exact Sb.app0 | apply Sb.keep | apply Sb.keepApp | apply Sb.cons | apply Sb.app))) (rd_move rfl) rfl (by kernel_rfl) ?_
      refine xm_take 2 (m' := 7) rfl (by kernel_rfl) (by first | exact Sb.refl | exact Sb.nil | (repeat (first | exact Sb.nil | exact Sb.refl | exact Sb.app0 | apply Sb.keep | apply Sb.keepApp | apply Sb.cons | apply Sb.app))) (rd_neq rfl rfl) rfl (by kernel_rfl) ?_
      refine xm_take 3 (m' := 15) rfl (by kernel_rfl) (by first | exact Sb.refl | exact Sb.nil | (repeat (first | exact Sb.nil | exact Sb.refl | exact Sb.app0 | apply Sb.keep | apply Sb.keepApp | apply Sb.cons | apply Sb.app))) (rd_move rfl) rfl (by kernel_rfl) ?_
      refine xm_ndec 38 rfl (fun h => absurd rfl h) (fun _ => ?_)
      refine xm_gtake 4 (m' := 31) rfl (by kernel_rfl) (by first | exact Sb.refl | exact Sb.nil | (repeat (first | exact Sb.nil | exact Sb.refl | exact Sb.app0 | apply Sb.keep | apply Sb.keepApp | apply Sb.cons | apply Sb.app))) rfl rfl (rd_loadB rfl Kn.o0 (by rfl)) rfl (by kernel_rfl) ?_
      refine xm_gtake 6 (m' := 95) rfl (by kernel_rfl) (by first | exact Sb.refl | exact Sb.nil | (repeat (first | exact Sb.nil | exact Sb.refl | exact Sb.app0 | apply Sb.keep | apply Sb.keepApp | apply Sb.cons | apply Sb.app))) rfl rfl (rd_loadB rfl Kn.o1 (by rfl)) rfl (by kernel_rfl) ?_
      refine xm_gone 5 (m' := 127) rfl (by kernel_rfl) rfl rfl rfl (by kernel_rfl) (ef_call rfl (XF.mono (xf_plan (zA ct cm rate).1 s4 _ k4 (zA ct cm rate).2 rfl (hO4.rs (by intro z hz; simp [hz])) (by omega)) ?_))
      rintro v L' ⟨s5, k5, l5, rfl, hO5, rfl⟩
      refine xmx_perm List.perm_append_comm ?_
      refine ⟨(by first | exact Sb.refl | exact Sb.nil | (repeat (first | exact Sb.nil | exact Sb.refl | exact Sb.app0 | apply Sb.keep | apply Sb.keepApp | apply Sb.cons | apply Sb.app))), ?_⟩
      refine xm_gone 7 (m' := 255) rfl (by kernel_rfl) rfl rfl rfl (by kernel_rfl) (ef_call rfl (XF.mono (xf_rsame_self (zA ct cm rate).1 s5 s3 _ k5 k3 (zA ct cm rate).2 rfl (hO5.rs (by intro z hz; simp [hz])) (hO3.rs (by intro z hz; simp [hz])) (by omega)) ?_))
      rintro v L' ⟨rfl, rfl⟩
      refine ⟨(by first | exact Sb.refl | exact Sb.nil | (repeat (first | exact Sb.nil | exact Sb.refl | exact Sb.app0 | apply Sb.keep | apply Sb.keepApp | apply Sb.cons | apply Sb.app))), ?_⟩
      refine xm_gtake 8 (m' := 511) rfl (by kernel_rfl) (by first | exact Sb.refl | exact Sb.nil | (repeat (first | exact Sb.nil | exact Sb.refl | exact Sb.app0 | apply Sb.keep | apply Sb.keepApp | apply Sb.cons | apply Sb.app))) rfl rfl (rd_not rfl) rfl (by kernel_rfl) ?_
      refine xm_take 9 (m' := 1023) rfl (by kernel_rfl) (by first | exact Sb.refl | exact Sb.nil | (repeat (first | exact Sb.nil | exact Sb.refl | exact Sb.app0 | apply Sb.keep | apply Sb.keepApp | apply Sb.cons | apply Sb.app))) (rd_pickf rfl rfl) rfl (by kernel_rfl) ?_
      refine xm_done (by kernel_rfl) ?_
      refine xq_seq ?_
      refine xc_condf rfl ?_
      refine xc_skip ?_
      refine xq_seq ?_
      refine xc_seq ?_
      refine xc_region ?_
      refine xo_rd (rd_assign rfl) rfl ?_
      refine xo_nil ?_
      refine xq_seq ?_
      refine xc_block ?_
    refine xc_perm (L' := (r9, .cells #[.int .i64 (zA ct cm rate).1, .slice s4 (zA ct cm rate).2.length k4] 36 (0, 0)) :: (l4 ++ ((r6, .cells #[.int .i64 (zA ct cm rate).1, .slice s3 (zA ct cm rate).2.length k3] 32 (0, 0)) :: (r5, .cells #[.slice p' n c', .slice q' m d'] 28 (0, 0)) :: (r3, .cells #[.slice p n c, .slice q m d] 25 (0, 0)) :: (((l2 ++ l1) ++ l3) ++ l5)))) (by classical exact List.perm_iff_count.2 fun a => by simp only [List.append_eq, List.count_append, List.count_cons, List.count_nil, List.cons_append, List.nil_append, List.flatMap_append, List.flatMap_cons, List.flatMap_nil, List.append_nil]; omega) ?_
    refine xc_loopI (ι := Nat × List Bool × List Blk) (fun s => s.1 ≤ (zA ct cm rate).2.length ∧ SlO 1 4 (.slice s4 (zA ct cm rate).2.length k4) (zA ct cm rate).2.length (bls s.2.1) s.2.2) (fun s => (zA ct cm rate).2.length - s.1) (fun s => (r9, .cells #[.int .i64 (zA ct cm rate).1, .slice s4 (zA ct cm rate).2.length k4] 36 (0, 0)) :: (s.2.2 ++ ((r6, .cells #[.int .i64 (zA ct cm rate).1, .slice s3 (zA ct cm rate).2.length k3] 32 (0, 0)) :: (r5, .cells #[.slice p' n c', .slice q' m d'] 28 (0, 0)) :: (r3, .cells #[.slice p n c, .slice q m d] 25 (0, 0)) :: (((l2 ++ l1) ++ l3) ++ l5)))) (fun s => [(0, .int .u64 rate), (3, .pointer (some ⟨r3, 0, none⟩)), (4, .bool false), (5, .pointer (some ⟨r5, 0, none⟩)), (6, .pointer (some ⟨r6, 0, none⟩)), (7, .int .i64 (eA ct cm)), (8, .int .i64 i), (9, .pointer (some ⟨r9, 0, none⟩)), (11, .int .i64 s.1)]) (0, (zA ct cm rate).2, l4) ⟨Nat.zero_le _, hO4⟩ rfl (by repeat (first | exact keep_nil | refine keep_cons rfl ?_)) ?_
    clear hO4 hO5
    rintro ⟨k, bs, lx⟩ ⟨hk, hO⟩
    dsimp only at hk hO ⊢
    have hbs : bs.length = (zA ct cm rate).2.length := by have := hO.len; rw [bls_len] at this; omega
    focus
      refine xc_seq ?_
      refine xc_seq ?_
      refine xc_region ?_
      refine xo_rd (rd_move rfl) rfl ?_
      refine xo_rd (rd_fieldAddr rfl) rfl ?_
      refine xo_rd (rd_load1 rfl (Cl.o0 rfl)) rfl ?_
      refine xo_rd (rd_len rfl) rfl ?_
      refine xo_rd (rd_lss rfl rfl) rfl ?_
      refine xo_nil ?_
      refine xq_seq ?_
      refine xc_dec rfl (fun hk1 => ?_) (fun hk1 => ?_)
      refine xc_skip ?_
      refine xq_seq ?_
      rotate_left
      refine xc_exit ?_
      refine xq_then_exit ?_
      refine xq_then_exit ?_
      refine xq_block_hit ?_
      refine xq_block ?_
      refine xq_seq ?_
      refine xc_region ?_
      refine xo_rd (rd_move rfl) rfl ?_
      refine xo_rd (rd_addn rfl rfl (by omega) (by omega)) rfl ?_
      refine xo_rd (rd_assign rfl) rfl ?_
      refine xo_nil ?_
      rotate_left
    · obtain ⟨b, rest, cap, hv, hcap, hl⟩ := hO.cut (by omega)
      simp only [Value.slice.injEq] at hv
      obtain ⟨rfl, _, _⟩ := hv
      have hcell := bls_cell (W := W) (L := (r9, .cells #[.int .i64 (zA ct cm rate).1, .slice (some ⟨b, 0, none⟩) (zA ct cm rate).2.length k4] 36 (0, 0)) :: (lx ++ ((r6, .cells #[.int .i64 (zA ct cm rate).1, .slice s3 (zA ct cm rate).2.length k3] 32 (0, 0)) :: (r5, .cells #[.slice p' n c', .slice q' m d'] 28 (0, 0)) :: (r3, .cells #[.slice p n c, .slice q m d] 25 (0, 0)) :: (((l2 ++ l1) ++ l3) ++ l5)))) hO (by intro z hz; simp [hz]) k (by omega)
      refine xc_seq (xc_block ?_)
      focus
        refine xc_drawM [0, 1, 0, 0, 8, 0, 48, 64, 128, 511, 1023] [0, 1, 0, 0, 8, 0, 48, 64, 128, 511, 1023] ([(r9, .cells #[.int .i64 (zA ct cm rate).1, .slice (some ⟨b, 0, none⟩) (zA ct cm rate).2.length k4] 36 (0, 0))]) (by kernel_rfl) (by kernel_rfl) (by kernel_rfl) ?_
        refine xm_take 0 (m' := 1) rfl (by kernel_rfl) (by first | exact Sb.refl | exact Sb.nil | (repeat (first | exact Sb.nil | exact Sb.refl | exact Sb.app0 | apply Sb.keep | apply Sb.keepApp | apply Sb.cons | apply Sb.app))) (rd_fieldAddr rfl) rfl (by kernel_rfl) ?_
        refine xm_take 1 (m' := 3) rfl (by kernel_rfl) (by first | exact Sb.refl | exact Sb.nil | (repeat (first | exact Sb.nil | exact Sb.refl | exact Sb.app0 | apply Sb.keep | apply Sb.keepApp | apply Sb.cons | apply Sb.app))) (rd_load1 rfl (Cl.o0 rfl)) rfl (by kernel_rfl) ?_
        refine xm_take 2 (m' := 7) rfl (by kernel_rfl) (by first | exact Sb.refl | exact Sb.nil | (repeat (first | exact Sb.nil | exact Sb.refl | exact Sb.app0 | apply Sb.keep | apply Sb.keepApp | apply Sb.cons | apply Sb.app))) (rd_move rfl) rfl (by kernel_rfl) ?_
        refine xm_take 3 (m' := 15) rfl (by kernel_rfl) (by first | exact Sb.refl | exact Sb.nil | (repeat (first | exact Sb.nil | exact Sb.refl | exact Sb.app0 | apply Sb.keep | apply Sb.keepApp | apply Sb.cons | apply Sb.app))) (rd_fieldAddr rfl) rfl (by kernel_rfl) ?_
        refine xm_take 4 (m' := 31) rfl (by kernel_rfl) (by first | exact Sb.refl | exact Sb.nil | (repeat (first | exact Sb.nil | exact Sb.refl | exact Sb.app0 | apply Sb.keep | apply Sb.keepApp | apply Sb.cons | apply Sb.app))) (rd_load1 rfl (Cl.o0 rfl)) rfl (by kernel_rfl) ?_
        refine xm_take 5 (m' := 63) rfl (by kernel_rfl) (by first | exact Sb.refl | exact Sb.nil | (repeat (first | exact Sb.nil | exact Sb.refl | exact Sb.app0 | apply Sb.keep | apply Sb.keepApp | apply Sb.cons | apply Sb.app))) (rd_move rfl) rfl (by kernel_rfl) ?_
        refine xm_take 6 (m' := 127) rfl (by kernel_rfl) (by first | exact Sb.refl | exact Sb.nil | (repeat (first | exact Sb.nil | exact Sb.refl | exact Sb.app0 | apply Sb.keep | apply Sb.keepApp | apply Sb.cons | apply Sb.app))) (rd_indexAddr rfl rfl (by omega) (by omega)) rfl (by kernel_rfl) ?_
        refine xm_one 7 (m' := 255) rfl (by kernel_rfl) rfl (by kernel_rfl) (ef_rd (rd_load1 rfl hcell) ?_)
        refine ⟨(by first | exact Sb.refl | exact Sb.nil | (repeat (first | exact Sb.nil | exact Sb.refl | exact Sb.app0 | apply Sb.keep | apply Sb.keepApp | apply Sb.cons | apply Sb.app))), ?_⟩
        refine xm_take 8 (m' := 511) rfl (by kernel_rfl) (by first | exact Sb.refl | exact Sb.nil | (repeat (first | exact Sb.nil | exact Sb.refl | exact Sb.app0 | apply Sb.keep | apply Sb.keepApp | apply Sb.cons | apply Sb.app))) (rd_not rfl) rfl (by kernel_rfl) ?_
        refine xm_take 9 (m' := 1023) rfl (by kernel_rfl) (by first | exact Sb.refl | exact Sb.nil | (repeat (first | exact Sb.nil | exact Sb.refl | exact Sb.app0 | apply Sb.keep | apply Sb.keepApp | apply Sb.cons | apply Sb.app))) (rd_indexAddr rfl rfl (by omega) (by omega)) rfl (by kernel_rfl) ?_
        refine xm_one 10 (m' := 2047) rfl (by kernel_rfl) rfl (by kernel_rfl) (ef_storeElo [_] _ (i := k) hO (by simp [ev, lk, pt]) rfl (by omega) rfl rfl rfl (by decide) rfl fun l' hO' => ?_)
        refine ⟨(by first | exact Sb.refl | exact Sb.nil | (repeat (first | exact Sb.nil | exact Sb.refl | exact Sb.app0 | apply Sb.keep | apply Sb.keepApp | apply Sb.cons | apply Sb.app))), ?_⟩
        refine xm_done (by kernel_rfl) ?_
        refine xq_block ?_
        refine xq_seq ?_
        refine xc_region ?_
        refine xo_rd (rd_move rfl) rfl ?_
        refine xo_rd (rd_addn rfl rfl (by omega) (by omega)) rfl ?_
        refine xo_rd (rd_assign rfl) rfl ?_
        refine xo_nil ?_
      rw [bls_set bs k _ (by omega)] at hO'
      exact xq_roundI (k + 1, bs.set k (!bs[k]), l') ⟨by dsimp only; omega, hO'⟩ (by dsimp only; omega) rfl (by repeat (first | exact keep_nil | refine keep_cons rfl ?_))
    · refine xq_sub (L' := (r6, .cells #[.int .i64 (zA ct cm rate).1, .slice s3 (zA ct cm rate).2.length k3] 32 (0, 0)) :: (r5, .cells #[.slice p' n c', .slice q' m d'] 28 (0, 0)) :: (r3, .cells #[.slice p n c, .slice q m d] 25 (0, 0)) :: ((l2 ++ l1) ++ l3)) ?_ (xq_roundI (i + 1) (by omega) (by omega) rfl (by repeat (first | exact keep_nil | refine keep_cons rfl ?_)))
      exact ((((List.sublist_append_left _ l5).cons_cons _).cons_cons _).cons_cons _).trans ((List.sublist_append_right lx _).cons _)
  · refine xc_loopI (ι := Nat) (fun i => i ≤ n) (fun i => n - i) (fun _ => (r6, .cells #[.int .i64 (zA ct cm rate).1, .slice s3 (zA ct cm rate).2.length k3] 32 (0, 0)) :: (r5, .cells #[.slice p' n c', .slice q' m d'] 28 (0, 0)) :: (r3, .cells #[.slice p n c, .slice q m d] 25 (0, 0)) :: ((l2 ++ l1) ++ l3)) (fun i => [(0, .int .u64 rate), (3, .pointer (some ⟨r3, 0, none⟩)), (4, .bool false), (5, .pointer (some ⟨r5, 0, none⟩)), (12, .int .i64 i)]) 0 (by omega) rfl (by repeat (first | exact keep_nil | refine keep_cons rfl ?_)) ?_
    intro j hj
    focus
      refine xc_seq ?_
      refine xc_seq ?_
      refine xc_region ?_
      refine xo_rd (rd_move rfl) rfl ?_
      refine xo_rd (rd_fieldAddr rfl) rfl ?_
      refine xo_rd (rd_load1 rfl (Cl.o1 rfl)) rfl ?_
      refine xo_rd (rd_len rfl) rfl ?_
      refine xo_rd (rd_lss rfl rfl) rfl ?_
      refine xo_nil ?_
      refine xq_seq ?_
      refine xc_dec rfl (fun hj1 => ?_) (fun hj1 => ?_)
      refine xc_skip ?_
      refine xq_seq ?_
      rotate_left
      refine xc_exit ?_
      refine xq_then_exit ?_
      refine xq_then_exit ?_
      refine xq_block_hit ?_
      refine xq_seq ?_
      refine xc_seq ?_
      refine xc_region ?_
      refine xo_ef rfl (ef_call rfl (XF.mono (xf_any (fun W => xf_works)) ?_))
      rintro v L' ⟨rfl, rfl⟩
      refine xo_rd (rd_assign rfl) rfl ?_
      refine xo_nil ?_
      refine xq_seq ?_
      refine xc_ret ?_
      exact xq_ret1 (.inl rfl) Try.results3 rfl (rfl)
    · obtain ⟨b1, o1, rfl, hc1⟩ := (hO1.rs (L := (r6, .cells #[.int .i64 (zA ct cm rate).1, .slice s3 (zA ct cm rate).2.length k3] 32 (0, 0)) :: (r5, .cells #[.slice p' n c', .slice q' m d'] 28 (0, 0)) :: (r3, .cells #[.slice p n c, .slice q m d] 25 (0, 0)) :: ((l2 ++ l1) ++ l3)) (by intro z hz; simp [hz]) : Rs W _ _ _).int (i := j) (by omega)
      obtain ⟨b2, o2, rfl, hc2⟩ := (hr' ((r6, .cells #[.int .i64 (zA ct cm rate).1, .slice s3 (zA ct cm rate).2.length k3] 32 (0, 0)) :: (r5, .cells #[.slice (some ⟨b1, o1, none⟩) n c', .slice q' m d'] 28 (0, 0)) :: (r3, .cells #[.slice p n c, .slice q m d] 25 (0, 0)) :: ((l2 ++ l1) ++ l3))).int (i := j) (by omega)
      refine xc_seq (xc_block ?_)
      focus
        refine xc_seq ?_
        refine xc_drawML [0, 1, 0, 6, 8, 0, 32, 0, 192, 256, 528] [0, 1, 0, 6, 8, 0, 32, 0, 192, 256, 528] (by kernel_rfl) (by kernel_rfl) (by kernel_rfl) ?_
        refine xm_take 0 (m' := 1) rfl (by kernel_rfl) (by first | exact Sb.refl | exact Sb.nil | (repeat (first | exact Sb.nil | exact Sb.refl | exact Sb.app0 | apply Sb.keep | apply Sb.keepApp | apply Sb.cons | apply Sb.app))) (rd_fieldAddr rfl) rfl (by kernel_rfl) ?_
        refine xm_take 1 (m' := 3) rfl (by kernel_rfl) (by first | exact Sb.refl | exact Sb.nil | (repeat (first | exact Sb.nil | exact Sb.refl | exact Sb.app0 | apply Sb.keep | apply Sb.keepApp | apply Sb.cons | apply Sb.app))) (rd_load1 rfl (Cl.o1 rfl)) rfl (by kernel_rfl) ?_
        refine xm_take 2 (m' := 7) rfl (by kernel_rfl) (by first | exact Sb.refl | exact Sb.nil | (repeat (first | exact Sb.nil | exact Sb.refl | exact Sb.app0 | apply Sb.keep | apply Sb.keepApp | apply Sb.cons | apply Sb.app))) (rd_move rfl) rfl (by kernel_rfl) ?_
        refine xm_take 3 (m' := 15) rfl (by kernel_rfl) (by first | exact Sb.refl | exact Sb.nil | (repeat (first | exact Sb.nil | exact Sb.refl | exact Sb.app0 | apply Sb.keep | apply Sb.keepApp | apply Sb.cons | apply Sb.app))) (rd_indexAddr rfl rfl (by omega) (by omega)) rfl (by kernel_rfl) ?_
        refine xm_take 4 (m' := 31) rfl (by kernel_rfl) (by first | exact Sb.refl | exact Sb.nil | (repeat (first | exact Sb.nil | exact Sb.refl | exact Sb.app0 | apply Sb.keep | apply Sb.keepApp | apply Sb.cons | apply Sb.app))) (rd_load1 rfl (by simpa using hc1)) rfl (by kernel_rfl) ?_
        refine xm_take 5 (m' := 63) rfl (by kernel_rfl) (by first | exact Sb.refl | exact Sb.nil | (repeat (first | exact Sb.nil | exact Sb.refl | exact Sb.app0 | apply Sb.keep | apply Sb.keepApp | apply Sb.cons | apply Sb.app))) (rd_fieldAddr rfl) rfl (by kernel_rfl) ?_
        refine xm_take 6 (m' := 127) rfl (by kernel_rfl) (by first | exact Sb.refl | exact Sb.nil | (repeat (first | exact Sb.nil | exact Sb.refl | exact Sb.app0 | apply Sb.keep | apply Sb.keepApp | apply Sb.cons | apply Sb.app))) (rd_load1 rfl (Cl.o2 rfl)) rfl (by kernel_rfl) ?_
        refine xm_take 7 (m' := 255) rfl (by kernel_rfl) (by first | exact Sb.refl | exact Sb.nil | (repeat (first | exact Sb.nil | exact Sb.refl | exact Sb.app0 | apply Sb.keep | apply Sb.keepApp | apply Sb.cons | apply Sb.app))) (rd_move rfl) rfl (by kernel_rfl) ?_
        refine xm_take 8 (m' := 511) rfl (by kernel_rfl) (by first | exact Sb.refl | exact Sb.nil | (repeat (first | exact Sb.nil | exact Sb.refl | exact Sb.app0 | apply Sb.keep | apply Sb.keepApp | apply Sb.cons | apply Sb.app))) (rd_indexAddr rfl rfl (by omega) (by omega)) rfl (by kernel_rfl) ?_
        refine xm_take 9 (m' := 1023) rfl (by kernel_rfl) (by first | exact Sb.refl | exact Sb.nil | (repeat (first | exact Sb.nil | exact Sb.refl | exact Sb.app0 | apply Sb.keep | apply Sb.keepApp | apply Sb.cons | apply Sb.app))) (rd_load1 rfl (by simpa using hc2)) rfl (by kernel_rfl) ?_
        refine xm_take 10 (m' := 2047) rfl (by kernel_rfl) (by first | exact Sb.refl | exact Sb.nil | (repeat (first | exact Sb.nil | exact Sb.refl | exact Sb.app0 | apply Sb.keep | apply Sb.keepApp | apply Sb.cons | apply Sb.app))) (rd_neq rfl rfl) rfl (by kernel_rfl) ?_
        refine xm_done (by kernel_rfl) ?_
        refine xq_seq ?_
        refine xc_ndec rfl (fun h => absurd rfl h) (fun _ => ?_)
        refine xc_skip ?_
        refine xq_block ?_
        refine xq_seq ?_
        refine xc_region ?_
        refine xo_rd (rd_move rfl) rfl ?_
        refine xo_rd (rd_addn rfl rfl (by omega) (by omega)) rfl ?_
        refine xo_rd (rd_assign rfl) rfl ?_
        refine xo_nil ?_
      exact xq_roundI (j + 1) (by omega) (by omega) rfl (by repeat (first | exact keep_nil | refine keep_cons rfl ?_))
end Go.Proofs.Ytnghandgghfloaa.X
