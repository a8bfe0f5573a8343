/-
  Texts of my own, put together: walks and laws for this seat. No condition.
-/
import Derived.Test.YtohlaabclifbfaaM12
import Derived.Test.YtohlaabclifbfaaM11
import Derived.Test.YtohlaabclifbfaaM2
import Derived.Laws.Strings2
/-
  What the reference says of who goes; RtcpTells: walks of my own.
-/
namespace Go.Proofs.Ytohlaabclifbfaa.X
open Go Go.RowKit
set_option linter.unusedVariables false
set_option linter.unusedSimpArgs false
theorem longsAt_snoc : ∀ (n : Nat) (l : List Int), longsAt (n + 1) l = longsAt n l ++ [at4 (l.drop (4 * n)) 0]
  | 0, l => rfl
  | n + 1, l => by
    rw [longsAt, longsAt_snoc n (l.drop 4), longsAt, List.drop_drop, show 4 + 4 * n = 4 * (n + 1) from by omega]
    rfl
def ByT (T : TypeId) (L : List Blk) (x : By') (e : Int) (v : Value) (L' : List Blk) : Prop :=
  ∃ s k l, v = .tuple #[.agg (x.enc (.slice s x.so.length k)).toArray, .int .i64 e] ∧ SlO 1 T (.slice s x.so.length k) x.so.length (ints .u32 x.so) l ∧ L' = l ++ L
theorem ByT.err {T : TypeId} {L : List Blk} (e : Int) : ByT T L ⟨[], ⟨#[]⟩⟩ e (.tuple #[.agg #[.slice none 0 0, .string ⟨#[]⟩], .int .i64 e]) L := ⟨none, 0, [], rfl, SlO.nil, rfl⟩
set_option maxHeartbeats 8000000 in
theorem xf_rofBye {W : World} {L : List Blk} (y : Pb) (x : By') (e : Int) (hz : ofBy y.q = (x, e)) (hr : Rs W L y.p (ints .u8 y.q.bd)) (hg : y.q.Rg) (hc : y.q.bd.length ≤ y.c) (hn : y.q.bd.length ≤ 1000000) :
    XF Try.prog W 73 #[.agg y.enc.toArray] L (ByT 49 L x e) := by
  refine xf_enter (args := [_]) Try.func73 rfl Try.ntmps73 rfl ?_
  have hct := hg.ct
  have hb := hg.bd
  obtain ⟨⟨ct', kd, bs, pd⟩, p, c, yl⟩ := y
  unfold By at hct
  dsimp only at hct hr hc hn hb hz
  obtain ⟨n, rfl⟩ : ∃ n : Nat, ct' = n := ⟨ct'.toNat, by omega⟩
  rw [ofBy_eq hg rfl] at hz
  dsimp only at hz
  unfold Pb.enc Pc.enc
  dsimp only
  by_cases hk : kd = 203
  · rw [if_neg (fun h => h hk)] at hz
    by_cases hl : bs.length < 4 * n
    · rw [if_pos hl] at hz
      simp only [Prod.mk.injEq] at hz
      obtain ⟨rfl, rfl⟩ := hz
      focus
        refine xc_seq ?_
        refine xc_region ?_
        refine xo_ef rfl (ef_box rfl fun r1 => ?_)
        refine xo_ef rfl (ef_alloc fun r2 => ?_)
        refine xo_rd (rd_assign rfl) rfl ?_
        refine xo_nil ?_
        refine xq_seq ?_
        refine xc_seq ?_
        refine xc_seq ?_
        refine xc_region ?_
        refine xo_rd (rd_fieldAddr rfl) rfl ?_
        refine xo_rd (rd_load1 rfl (Cl.o1 rfl)) rfl ?_
        refine xo_rd (rd_neq rfl rfl) rfl ?_
        refine xo_nil ?_
        refine xq_seq ?_
        refine xc_ndec rfl (fun hq1 => (by exfalso; omega)) (fun hq1 => ?_)
        refine xc_skip ?_
        refine xq_seq ?_
        refine xc_seq ?_
        refine xc_region ?_
        refine xo_rd (rd_fieldAddr rfl) rfl ?_
        refine xo_rd (rd_load1 rfl (Cl.o1 rfl)) rfl ?_
        refine xo_rd (rd_convn rfl (by omega) (by omega)) rfl ?_
        refine xo_rd (rd_muln rfl rfl (by omega) (by omega)) rfl ?_
        refine xo_rd (rd_assign rfl) rfl ?_
        refine xo_nil ?_
        refine xq_seq ?_
        refine xc_seq ?_
        refine xc_seq ?_
        refine xc_region ?_
        refine xo_rd (rd_fieldAddr rfl) rfl ?_
        refine xo_rd (rd_load1 rfl (Cl.o1 rfl)) rfl ?_
        refine xo_rd (rd_len rfl) rfl ?_
        refine xo_rd (rd_move rfl) rfl ?_
        refine xo_rd (rd_lss rfl rfl) rfl ?_
        refine xo_nil ?_
        refine xq_seq ?_
        refine xc_dec rfl (fun hq2 => ?_) (fun hq2 => (by exfalso; omega))
        refine xc_seq ?_
        refine xc_region ?_
        refine xo_rd (rd_build rfl rfl rfl) rfl ?_
        refine xo_ef rfl (ef_storeB [] _ rfl rfl (by first | rfl | assumption) rfl rfl rfl ?_)
        refine xo_rd (rd_assign rfl) rfl ?_
        refine xo_nil ?_
        refine xq_seq ?_
        refine xc_ret ?_
        refine xq_then_ret ?_
      exact xq_retB2 (.inl rfl) Try.results73 rfl rfl Kn.o0 rfl ((List.sublist_cons_self _ _).trans (List.sublist_cons_self _ _)) (ByT.err 63)
    · rw [if_neg hl] at hz
      focus
        refine xc_seq ?_
        refine xc_region ?_
        refine xo_ef rfl (ef_box rfl fun r1 => ?_)
        refine xo_ef rfl (ef_alloc fun r2 => ?_)
        refine xo_rd (rd_assign rfl) rfl ?_
        refine xo_nil ?_
        refine xq_seq ?_
        refine xc_seq ?_
        refine xc_seq ?_
        refine xc_region ?_
        refine xo_rd (rd_fieldAddr rfl) rfl ?_
        refine xo_rd (rd_load1 rfl (Cl.o1 rfl)) rfl ?_
        refine xo_rd (rd_neq rfl rfl) rfl ?_
        refine xo_nil ?_
        refine xq_seq ?_
        refine xc_ndec rfl (fun hq1 => (by exfalso; omega)) (fun hq1 => ?_)
        refine xc_skip ?_
        refine xq_seq ?_
        refine xc_seq ?_
        refine xc_region ?_
        refine xo_rd (rd_fieldAddr rfl) rfl ?_
        refine xo_rd (rd_load1 rfl (Cl.o1 rfl)) rfl ?_
        refine xo_rd (rd_convn rfl (by omega) (by omega)) rfl ?_
        refine xo_rd (rd_muln rfl rfl (by omega) (by omega)) rfl ?_
        refine xo_rd (rd_assign rfl) rfl ?_
        refine xo_nil ?_
        refine xq_seq ?_
        refine xc_seq ?_
        refine xc_seq ?_
        refine xc_region ?_
        refine xo_rd (rd_fieldAddr rfl) rfl ?_
        refine xo_rd (rd_load1 rfl (Cl.o1 rfl)) rfl ?_
        refine xo_rd (rd_len rfl) rfl ?_
        refine xo_rd (rd_move rfl) rfl ?_
        refine xo_rd (rd_lss rfl rfl) rfl ?_
        refine xo_nil ?_
        refine xq_seq ?_
        refine xc_dec rfl (fun hq2 => (by exfalso; omega)) (fun hq2 => ?_)
        refine xc_skip ?_
        refine xq_seq ?_
        refine xc_seq ?_
        refine xc_region ?_
        refine xo_ef rfl (ef_alloc fun r5 => ?_)
        refine xo_nil ?_
        refine xq_seq ?_
        refine xc_seq ?_
        refine xc_seq ?_
        refine xc_region ?_
        refine xo_rd (rd_assign rfl) rfl ?_
        refine xo_nil ?_
        refine xq_seq ?_
        refine xc_block ?_
      refine xc_loopI (ι := ObS) (fun z => z.i ≤ n ∧ SlO 1 49 (.slice z.s z.i z.k) z.i (ints .u32 (longsAt z.i bs)) z.l) (fun z => n - z.i)
        (fun z => (r5, .cells #[.slice z.s z.i z.k, .string ⟨#[]⟩] 78 (0, 0)) :: (r2, .cells #[.slice none 0 0, .string ⟨#[]⟩] 78 (0, 0)) :: (r1, .cells #[.int .u8 n, .int .u8 kd, .slice p bs.length c, .int .u8 pd] 46 (0, 0)) :: (z.l ++ L))
        (fun z => [(1, .pointer (some ⟨r1, 0, none⟩)), (2, .pointer (some ⟨r2, 0, none⟩)), (4, .int .i64 (4 * (n : Int))), (5, .pointer (some ⟨r5, 0, none⟩)), (6, .int .i64 z.i)]) ⟨0, none, 0, []⟩ ⟨Nat.zero_le _, SlO.nil⟩ rfl (by repeat (first | exact keep_nil | refine keep_cons rfl ?_)) ?_
      rintro ⟨i, s, k, l⟩ ⟨hi, hO⟩
      dsimp only at hi hO ⊢
      by_cases hin : i < n
      · obtain ⟨b, o, rfl, _⟩ := hr.int (i := 4 * i) (by omega)
        have u0 := at4_u4 (l := bs.drop (4 * i)) (fun x hx => hb x (List.mem_of_mem_drop hx)) 0
        unfold U4 at u0
        have hsn := longsAt_snoc i bs
        have hz0 : vl ((bs.drop (4 * i)).take 4) = at4 (bs.drop (4 * i)) 0 := rfl
        have hrq : Rs W L (some ⟨b, o + (4 * (i : Int)).toNat * 1, none⟩) (ints .u8 ((bs.drop (4 * i)).take 4)) := by
          rw [show (4 * (i : Int)).toNat * 1 = 4 * i from by omega, ints_take, ints_drop]
          exact (hr.drop (4 * i)).take 4
        have hln : ((bs.drop (4 * i)).take 4).length = (4 * (i : Int) + 4).toNat - (4 * (i : Int)).toNat := by rw [List.length_take, List.length_drop]; omega
        focus
          refine xc_seq ?_
          refine xc_seq ?_
          refine xc_region ?_
          refine xo_rd (rd_move rfl) rfl ?_
          refine xo_rd (rd_fieldAddr rfl) rfl ?_
          refine xo_rd (rd_load1 rfl (Cl.o2 rfl)) rfl ?_
          refine xo_rd (rd_convn rfl (by omega) (by omega)) rfl ?_
          refine xo_rd (rd_lss rfl rfl) rfl ?_
          refine xo_nil ?_
          refine xq_seq ?_
          refine xc_dec rfl (fun h1 => ?_) (fun h1 => (by exfalso; omega))
          refine xc_skip ?_
          refine xq_seq ?_
          refine xc_seq ?_
          refine xc_block ?_
          refine xc_drawM [0, 1, 0, 4, 0, 16, 0, 64, 128, 296, 512, 1024, 2048, 5122, 16383, 32767] [0, 1, 0, 4, 0, 16, 0, 64, 128, 296, 512, 1024, 2048, 5122, 16383, 32767] [] (by kernel_rfl) (by kernel_rfl) (by kernel_rfl) ?_
          refine xm_take 0 (m' := 1) rfl (by kernel_rfl) Sb.nil (rd_fieldAddr rfl) rfl (by kernel_rfl) ?_
          refine xm_take 2 (m' := 5) rfl (by kernel_rfl) Sb.nil (rd_fieldAddr rfl) rfl (by kernel_rfl) ?_
          refine xm_take 4 (m' := 21) rfl (by kernel_rfl) Sb.nil (rd_move rfl) rfl (by kernel_rfl) ?_
          refine xm_take 5 (m' := 53) rfl (by kernel_rfl) Sb.nil (rd_muln rfl rfl (by omega) (by omega)) rfl (by kernel_rfl) ?_
          refine xm_take 6 (m' := 117) rfl (by kernel_rfl) Sb.nil (rd_move rfl) rfl (by kernel_rfl) ?_
          refine xm_take 7 (m' := 245) rfl (by kernel_rfl) Sb.nil (rd_muln rfl rfl (by omega) (by omega)) rfl (by kernel_rfl) ?_
          refine xm_take 8 (m' := 501) rfl (by kernel_rfl) Sb.nil (rd_addn rfl rfl (by omega) (by omega)) rfl (by kernel_rfl) ?_
          refine xm_two 1 3 (mi := 503) (mk := 509) rfl rfl (by kernel_rfl) rfl rfl (by kernel_rfl) (by kernel_rfl) (ef_rd (rd_load1 rfl (Cl.o0 rfl)) ⟨Sb.nil, ?_⟩) (ef_rd (rd_load1 rfl (Cl.o2 rfl)) ⟨Sb.nil, ?_⟩)
          refine xm_one 3 (m' := 511) rfl (by kernel_rfl) rfl (by kernel_rfl) (ef_rd (rd_load1 rfl (Cl.o2 rfl)) ?_)
          refine ⟨Sb.nil, ?_⟩
          refine xm_take 9 (m' := 1023) rfl (by kernel_rfl) Sb.nil (rd_slice rfl rfl rfl (by omega) (by omega) (by omega) (by omega)) rfl (by kernel_rfl) ?_
          refine xm_one 10 (m' := 2047) rfl (by kernel_rfl) rfl (by kernel_rfl) (ef_call rfl (XF.mono (xf_valQ _ _ _ ((bs.drop (4 * i)).take 4) (at4 (bs.drop (4 * i)) 0) hz0 hln (hrq.mono (by intro z hz; simp [hz])) (fun x hx => hb x (List.mem_of_mem_drop (List.mem_of_mem_take hx))) (by omega)) ?_))
          rintro v L' ⟨rfl, rfl⟩
          refine ⟨Sb.nil, ?_⟩
          refine xm_take 11 (m' := 4095) rfl (by kernel_rfl) Sb.nil (rd_convn rfl (by omega) (by omega)) rfl (by kernel_rfl) ?_
          refine xm_one 12 (m' := 8191) rfl (by kernel_rfl) rfl (by kernel_rfl) (ef_slice1 rfl rfl rfl fun r41 => ?_)
          refine ⟨Sb.nil, ?_⟩
          refine xm_one 13 (m' := 16383) rfl (by kernel_rfl) rfl (by kernel_rfl) (ef_appendS [_, _, _, _] L l (news := [.int .u32 (at4 (bs.drop (4 * i)) 0)]) rfl rfl hO rfl (Rs.fresh (List.Mem.head _)) rfl rfl (by decide) (by omega) (by omega) fun s' k' l' hO' hk' => ?_)
          refine ⟨Sb.nil, ?_⟩
          refine xm_take 14 (m' := 32767) rfl (by kernel_rfl) Sb.nil (rd_fieldAddr rfl) rfl (by kernel_rfl) ?_
          refine xm_one 15 (m' := 65535) rfl (by kernel_rfl) rfl (by kernel_rfl) (ef_store1 [_] _ rfl rfl (by first | rfl | assumption) rfl rfl rfl ?_)
          refine ⟨Sb.nil, ?_⟩
          refine xm_done (by kernel_rfl) ?_
          refine xq_block ?_
          refine xq_seq ?_
          refine xc_region ?_
          refine xo_rd (rd_move rfl) rfl ?_
          refine xo_rd (rd_addn rfl rfl (by omega) (by omega)) rfl ?_
          refine xo_rd (rd_assign rfl) rfl ?_
          refine xo_nil ?_
          rotate_left
          refine xm_take 9 (m' := 1021) rfl (by kernel_rfl) Sb.nil (rd_slice rfl rfl rfl (by omega) (by omega) (by omega) (by omega)) rfl (by kernel_rfl) ?_
          refine xm_two 1 10 (mi := 1023) (mk := 2045) rfl rfl (by kernel_rfl) rfl rfl (by kernel_rfl) (by kernel_rfl) (ef_rd (rd_load1 rfl (Cl.o0 rfl)) ⟨Sb.nil, ?_⟩) (ef_call rfl (XF.mono (xf_valQ _ _ _ ((bs.drop (4 * i)).take 4) (at4 (bs.drop (4 * i)) 0) hz0 hln (hrq.mono (by intro z hz; simp [hz])) (fun x hx => hb x (List.mem_of_mem_drop (List.mem_of_mem_take hx))) (by omega)) ?_))
          rotate_left
          rintro v L' ⟨rfl, rfl⟩
          refine ⟨Sb.nil, ?_⟩
          rotate_right
          refine xm_one 10 (m' := 2047) rfl (by kernel_rfl) rfl (by kernel_rfl) (ef_call rfl (XF.mono (xf_valQ _ _ _ ((bs.drop (4 * i)).take 4) (at4 (bs.drop (4 * i)) 0) hz0 hln (hrq.mono (by intro z hz; simp [hz])) (fun x hx => hb x (List.mem_of_mem_drop (List.mem_of_mem_take hx))) (by omega)) ?_))
          rintro v L' ⟨rfl, rfl⟩
          refine ⟨Sb.nil, ?_⟩
          refine xm_take 11 (m' := 4095) rfl (by kernel_rfl) Sb.nil (rd_convn rfl (by omega) (by omega)) rfl (by kernel_rfl) ?_
          refine xm_one 12 (m' := 8191) rfl (by kernel_rfl) rfl (by kernel_rfl) (ef_slice1 rfl rfl rfl fun r41 => ?_)
          refine ⟨Sb.nil, ?_⟩
          refine xm_one 13 (m' := 16383) rfl (by kernel_rfl) rfl (by kernel_rfl) (ef_appendS [_, _, _, _] L l (news := [.int .u32 (at4 (bs.drop (4 * i)) 0)]) rfl rfl hO rfl (Rs.fresh (List.Mem.head _)) rfl rfl (by decide) (by omega) (by omega) fun s' k' l' hO' hk' => ?_)
          refine ⟨Sb.nil, ?_⟩
          refine xm_take 14 (m' := 32767) rfl (by kernel_rfl) Sb.nil (rd_fieldAddr rfl) rfl (by kernel_rfl) ?_
          refine xm_one 15 (m' := 65535) rfl (by kernel_rfl) rfl (by kernel_rfl) (ef_store1 [_] _ rfl rfl (by first | rfl | assumption) rfl rfl rfl ?_)
          refine ⟨Sb.nil, ?_⟩
          refine xm_done (by kernel_rfl) ?_
          refine xq_block ?_
          refine xq_seq ?_
          refine xc_region ?_
          refine xo_rd (rd_move rfl) rfl ?_
          refine xo_rd (rd_addn rfl rfl (by omega) (by omega)) rfl ?_
          refine xo_rd (rd_assign rfl) rfl ?_
          refine xo_nil ?_
          rotate_left
          refine xm_take 11 (m' := 4093) rfl (by kernel_rfl) Sb.nil (rd_convn rfl (by omega) (by omega)) rfl (by kernel_rfl) ?_
          refine xm_two 1 12 (mi := 4095) (mk := 8189) rfl rfl (by kernel_rfl) rfl rfl (by kernel_rfl) (by kernel_rfl) (ef_rd (rd_load1 rfl (Cl.o0 rfl)) ⟨Sb.nil, ?_⟩) (ef_slice1 rfl rfl rfl fun r41 => ⟨Sb.nil, ?_⟩)
          refine xm_one 12 (m' := 8191) rfl (by kernel_rfl) rfl (by kernel_rfl) (ef_slice1 rfl rfl rfl fun r41 => ?_)
          refine ⟨Sb.nil, ?_⟩
          refine xm_one 13 (m' := 16383) rfl (by kernel_rfl) rfl (by kernel_rfl) (ef_appendS [_, _, _, _] L l (news := [.int .u32 (at4 (bs.drop (4 * i)) 0)]) rfl rfl hO rfl (Rs.fresh (List.Mem.head _)) rfl rfl (by decide) (by omega) (by omega) fun s' k' l' hO' hk' => ?_)
          refine ⟨Sb.nil, ?_⟩
          refine xm_take 14 (m' := 32767) rfl (by kernel_rfl) Sb.nil (rd_fieldAddr rfl) rfl (by kernel_rfl) ?_
          refine xm_one 15 (m' := 65535) rfl (by kernel_rfl) rfl (by kernel_rfl) (ef_store1 [_] _ rfl rfl (by first | rfl | assumption) rfl rfl rfl ?_)
          refine ⟨Sb.nil, ?_⟩
          refine xm_done (by kernel_rfl) ?_
          refine xq_block ?_
          refine xq_seq ?_
          refine xc_region ?_
          refine xo_rd (rd_move rfl) rfl ?_
          refine xo_rd (rd_addn rfl rfl (by omega) (by omega)) rfl ?_
          refine xo_rd (rd_assign rfl) rfl ?_
          refine xo_nil ?_
          rotate_left
          refine xm_one 1 (m' := 8191) rfl (by kernel_rfl) rfl (by kernel_rfl) (ef_rd (rd_load1 rfl (Cl.o1 rfl)) ?_)
          refine ⟨Sb.nil, ?_⟩
          refine xm_one 13 (m' := 16383) rfl (by kernel_rfl) rfl (by kernel_rfl) (ef_appendS [_, _, _, _] L l (news := [.int .u32 (at4 (bs.drop (4 * i)) 0)]) rfl rfl hO rfl (Rs.fresh (List.Mem.head _)) rfl rfl (by decide) (by omega) (by omega) fun s' k' l' hO' hk' => ?_)
          refine ⟨Sb.nil, ?_⟩
          refine xm_take 14 (m' := 32767) rfl (by kernel_rfl) Sb.nil (rd_fieldAddr rfl) rfl (by kernel_rfl) ?_
          refine xm_one 15 (m' := 65535) rfl (by kernel_rfl) rfl (by kernel_rfl) (ef_store1 [_] _ rfl rfl (by first | rfl | assumption) rfl rfl rfl ?_)
          refine ⟨Sb.nil, ?_⟩
          refine xm_done (by kernel_rfl) ?_
          refine xq_block ?_
          refine xq_seq ?_
          refine xc_region ?_
          refine xo_rd (rd_move rfl) rfl ?_
          refine xo_rd (rd_addn rfl rfl (by omega) (by omega)) rfl ?_
          refine xo_rd (rd_assign rfl) rfl ?_
          refine xo_nil ?_
          rotate_left
        all_goals refine xq_tail (xq_roundI (⟨i + 1, s', k', l'⟩ : ObS) ⟨by dsimp only; omega, ?_⟩ (by dsimp only; omega) rfl (by repeat (first | exact keep_nil | refine keep_cons rfl ?_)))
        all_goals (dsimp only; rw [hsn, ints_app]; exact hO')
      · obtain rfl : i = n := by omega
        have hll := longsAt_len i bs
        focus
          refine xc_seq ?_
          refine xc_seq ?_
          refine xc_region ?_
          refine xo_rd (rd_move rfl) rfl ?_
          refine xo_rd (rd_fieldAddr rfl) rfl ?_
          refine xo_rd (rd_load1 rfl (Cl.o2 rfl)) rfl ?_
          refine xo_rd (rd_convn rfl (by omega) (by omega)) rfl ?_
          refine xo_rd (rd_lss rfl rfl) rfl ?_
          refine xo_nil ?_
          refine xq_seq ?_
          refine xc_dec rfl (fun hq1 => (by exfalso; omega)) (fun hq1 => ?_)
          refine xc_exit ?_
          refine xq_then_exit ?_
          refine xq_then_exit ?_
          refine xq_block_hit ?_
          refine xq_seq ?_
        by_cases h0 : bs.length = 4 * i
        · rw [if_pos h0] at hz
          simp only [Prod.mk.injEq] at hz
          obtain ⟨rfl, rfl⟩ := hz
          focus
            refine xc_seq ?_
            refine xc_seq ?_
            refine xc_region ?_
            refine xo_rd (rd_fieldAddr rfl) rfl ?_
            refine xo_rd (rd_load1 rfl (Cl.o2 rfl)) rfl ?_
            refine xo_rd (rd_len rfl) rfl ?_
            refine xo_rd (rd_move rfl) rfl ?_
            refine xo_rd (rd_eql rfl rfl) rfl ?_
            refine xo_nil ?_
            refine xq_seq ?_
            refine xc_dec rfl (fun hq1 => ?_) (fun hq1 => (by exfalso; omega))
            refine xc_seq ?_
            refine xc_region ?_
            refine xo_rd (rd_loadB rfl Kn.o0 (by rfl)) rfl ?_
            refine xo_ef rfl (ef_storeB [_] _ rfl rfl (by first | rfl | assumption) rfl rfl rfl ?_)
            refine xo_rd (rd_assign rfl) rfl ?_
            refine xo_nil ?_
            refine xq_seq ?_
            refine xc_ret ?_
            refine xq_then_ret ?_
          exact xq_sub (.cons _ (.cons_cons _ (.cons _ (List.Sublist.refl _)))) (xq_retB2 (.inl rfl) Try.results73 rfl rfl Kn.o0 rfl (List.sublist_cons_self _ _) ⟨s, k, l, by dsimp only; rw [hll]; rfl, by dsimp only; rw [hll]; exact hO, rfl⟩)
        · rw [if_neg h0] at hz
          obtain ⟨b, o, rfl, hca⟩ := hr.int (i := 4 * i) (by omega)
          have ga := hb bs[4 * i] (List.getElem_mem _)
          have ea : bs[4 * i] = bs.getD (4 * i) 0 := by rw [List.getD_eq_getElem?_getD, List.getElem?_eq_getElem (by omega)]; rfl
          rw [ea] at hca ga
          generalize bs.getD (4 * i) 0 = zz at *
          unfold By at ga
          obtain ⟨z, rfl⟩ : ∃ z : Nat, zz = z := ⟨zz.toNat, by omega⟩
          rw [show ((z : Int)).toNat = z from rfl] at hz
          have hca2 : Cl W L b (o + (4 * (i : Int)).toNat * 1) (.int .u8 z) := by
            rw [show (4 * (i : Int)).toNat = 4 * i from by omega]; exact hca
          focus
            refine xc_seq ?_
            refine xc_seq ?_
            refine xc_region ?_
            refine xo_rd (rd_fieldAddr rfl) rfl ?_
            refine xo_rd (rd_load1 rfl (Cl.o2 rfl)) rfl ?_
            refine xo_rd (rd_len rfl) rfl ?_
            refine xo_rd (rd_move rfl) rfl ?_
            refine xo_rd (rd_eql rfl rfl) rfl ?_
            refine xo_nil ?_
            refine xq_seq ?_
            refine xc_dec rfl (fun hq1 => (by exfalso; omega)) (fun hq1 => ?_)
            refine xc_skip ?_
            refine xq_seq ?_
            refine xc_seq ?_
            refine xc_region ?_
            refine xo_rd (rd_move rfl) rfl ?_
            refine xo_rd (rd_addn rfl rfl (by omega) (by omega)) rfl ?_
            refine xo_rd (rd_fieldAddr rfl) rfl ?_
            refine xo_rd (rd_load1 rfl (Cl.o2 rfl)) rfl ?_
            refine xo_rd (rd_move rfl) rfl ?_
            refine xo_rd (rd_indexAddr rfl rfl (by omega) (by omega)) rfl ?_
            refine xo_rd (rd_load1 rfl (hca2.mono (by intro z hz; simp [hz]))) rfl ?_
            refine xo_rd (rd_convn rfl (by omega) (by omega)) rfl ?_
            refine xo_rd (rd_addn rfl rfl (by omega) (by omega)) rfl ?_
            refine xo_rd (rd_assign rfl) rfl ?_
            refine xo_nil ?_
            refine xq_seq ?_
          have hen : (4 * (i : Int) + 1 + z) = ((4 * i + 1 + z : Nat) : Int) := by omega
          have hM : (4 * (i : Int) + 1 + (z : Int)) = ((4 * i + 1 + z : Nat) : Int) := by omega
          rw [hM]
          by_cases hbad : bs.length < 4 * i + 1 + z ∨ wd (4 * i + 1 + z) ≠ bs.length
          · rw [if_pos hbad] at hz
            simp only [Prod.mk.injEq] at hz
            obtain ⟨rfl, rfl⟩ := hz
            focus
              refine xc_seq ?_
              refine xc_seq ?_
              refine xc_drawM [0, 0, 2, 4, 9, 16, 32, 96, 32, 288, 544, 1184, 2080] [0, 0, 2, 4, 9, 16, 32, 96, 32, 288, 544, 1184, 2080] ([(r1, .cells #[.int .u8 i, .int .u8 kd, .slice (some ⟨b, o, none⟩) bs.length c, .int .u8 pd] 46 (0, 0))]) (by kernel_rfl) (by kernel_rfl) (by kernel_rfl) ?_
              refine xm_take 0 (m' := 1) rfl (by kernel_rfl) (by first | exact Sb.refl | exact Sb.nil | (repeat (first | exact Sb.nil | exact Sb.refl | exact Sb.app0 | apply Sb.keep | apply Sb.keepApp | apply Sb.cons | apply Sb.app))) (rd_move rfl) rfl (by kernel_rfl) ?_
              refine xm_take 1 (m' := 3) rfl (by kernel_rfl) (by first | exact Sb.refl | exact Sb.nil | (repeat (first | exact Sb.nil | exact Sb.refl | exact Sb.app0 | apply Sb.keep | apply Sb.keepApp | apply Sb.cons | apply Sb.app))) (rd_fieldAddr rfl) rfl (by kernel_rfl) ?_
              refine xm_take 2 (m' := 7) rfl (by kernel_rfl) (by first | exact Sb.refl | exact Sb.nil | (repeat (first | exact Sb.nil | exact Sb.refl | exact Sb.app0 | apply Sb.keep | apply Sb.keepApp | apply Sb.cons | apply Sb.app))) (rd_load1 rfl (Cl.o0 rfl)) rfl (by kernel_rfl) ?_
              refine xm_take 3 (m' := 15) rfl (by kernel_rfl) (by first | exact Sb.refl | exact Sb.nil | (repeat (first | exact Sb.nil | exact Sb.refl | exact Sb.app0 | apply Sb.keep | apply Sb.keepApp | apply Sb.cons | apply Sb.app))) (rd_len rfl) rfl (by kernel_rfl) ?_
              refine xm_take 4 (m' := 31) rfl (by kernel_rfl) (by first | exact Sb.refl | exact Sb.nil | (repeat (first | exact Sb.nil | exact Sb.refl | exact Sb.app0 | apply Sb.keep | apply Sb.keepApp | apply Sb.cons | apply Sb.app))) (rd_gtr rfl rfl) rfl (by kernel_rfl) ?_
              refine xm_take 5 (m' := 63) rfl (by kernel_rfl) (by first | exact Sb.refl | exact Sb.nil | (repeat (first | exact Sb.nil | exact Sb.refl | exact Sb.app0 | apply Sb.keep | apply Sb.keepApp | apply Sb.cons | apply Sb.app))) (rd_move rfl) rfl (by kernel_rfl) ?_
              refine xm_dec 64 rfl (fun hq1 => ?_) (fun hq1 => ?_)
              refine xm_gskip 6 (m' := 127) rfl (by kernel_rfl) (by first | exact Sb.refl | exact Sb.nil | (repeat (first | exact Sb.nil | exact Sb.refl | exact Sb.app0 | apply Sb.keep | apply Sb.keepApp | apply Sb.cons | apply Sb.app))) rfl rfl rfl rfl (by kernel_rfl) ?_
              refine xm_gskip 7 (m' := 255) rfl (by kernel_rfl) (by first | exact Sb.refl | exact Sb.nil | (repeat (first | exact Sb.nil | exact Sb.refl | exact Sb.app0 | apply Sb.keep | apply Sb.keepApp | apply Sb.cons | apply Sb.app))) rfl rfl rfl rfl (by kernel_rfl) ?_
              refine xm_gskip 8 (m' := 511) rfl (by kernel_rfl) (by first | exact Sb.refl | exact Sb.nil | (repeat (first | exact Sb.nil | exact Sb.refl | exact Sb.app0 | apply Sb.keep | apply Sb.keepApp | apply Sb.cons | apply Sb.app))) rfl rfl rfl rfl (by kernel_rfl) ?_
              refine xm_gskip 9 (m' := 1023) rfl (by kernel_rfl) (by first | exact Sb.refl | exact Sb.nil | (repeat (first | exact Sb.nil | exact Sb.refl | exact Sb.app0 | apply Sb.keep | apply Sb.keepApp | apply Sb.cons | apply Sb.app))) rfl rfl rfl rfl (by kernel_rfl) ?_
              refine xm_gskip 10 (m' := 2047) rfl (by kernel_rfl) (by first | exact Sb.refl | exact Sb.nil | (repeat (first | exact Sb.nil | exact Sb.refl | exact Sb.app0 | apply Sb.keep | apply Sb.keepApp | apply Sb.cons | apply Sb.app))) rfl rfl rfl rfl (by kernel_rfl) ?_
              refine xm_gskip 11 (m' := 4095) rfl (by kernel_rfl) (by first | exact Sb.refl | exact Sb.nil | (repeat (first | exact Sb.nil | exact Sb.refl | exact Sb.app0 | apply Sb.keep | apply Sb.keepApp | apply Sb.cons | apply Sb.app))) rfl rfl rfl rfl (by kernel_rfl) ?_
              refine xm_take 12 (m' := 8191) rfl (by kernel_rfl) (by first | exact Sb.refl | exact Sb.nil | (repeat (first | exact Sb.nil | exact Sb.refl | exact Sb.app0 | apply Sb.keep | apply Sb.keepApp | apply Sb.cons | apply Sb.app))) (rd_pickt rfl rfl) rfl (by kernel_rfl) ?_
              refine xm_done (by kernel_rfl) ?_
              refine xq_seq ?_
              refine xc_condt rfl ?_
              refine xc_seq ?_
              refine xc_region ?_
              refine xo_rd (rd_build rfl rfl rfl) rfl ?_
              refine xo_ef rfl (ef_storeB [_] _ rfl rfl (by first | rfl | assumption) rfl rfl rfl ?_)
              refine xo_rd (rd_assign rfl) rfl ?_
              refine xo_nil ?_
              refine xq_seq ?_
              refine xc_ret ?_
              refine xq_then_ret ?_
              rotate_left
              refine xm_gtake 6 (m' := 127) rfl (by kernel_rfl) (by first | exact Sb.refl | exact Sb.nil | (repeat (first | exact Sb.nil | exact Sb.refl | exact Sb.app0 | apply Sb.keep | apply Sb.keepApp | apply Sb.cons | apply Sb.app))) rfl rfl (rd_move rfl) rfl (by kernel_rfl) ?_
              refine xm_gtake 8 (m' := 383) rfl (by kernel_rfl) (by first | exact Sb.refl | exact Sb.nil | (repeat (first | exact Sb.nil | exact Sb.refl | exact Sb.app0 | apply Sb.keep | apply Sb.keepApp | apply Sb.cons | apply Sb.app))) rfl rfl (rd_fieldAddr rfl) rfl (by kernel_rfl) ?_
              refine xm_gtake 9 (m' := 895) rfl (by kernel_rfl) (by first | exact Sb.refl | exact Sb.nil | (repeat (first | exact Sb.nil | exact Sb.refl | exact Sb.app0 | apply Sb.keep | apply Sb.keepApp | apply Sb.cons | apply Sb.app))) rfl rfl (rd_load1 rfl (Cl.o0 rfl)) rfl (by kernel_rfl) ?_
              refine xm_gtake 10 (m' := 1919) rfl (by kernel_rfl) (by first | exact Sb.refl | exact Sb.nil | (repeat (first | exact Sb.nil | exact Sb.refl | exact Sb.app0 | apply Sb.keep | apply Sb.keepApp | apply Sb.cons | apply Sb.app))) rfl rfl (rd_len rfl) rfl (by kernel_rfl) ?_
              refine xm_gone 7 (m' := 2047) rfl (by kernel_rfl) rfl rfl rfl (by kernel_rfl) (ef_call rfl (XF.mono (xf_word (4 * i + 1 + z) (by omega)) ?_))
              rintro v L' ⟨rfl, rfl⟩
              refine ⟨(by first | exact Sb.refl | exact Sb.nil | (repeat (first | exact Sb.nil | exact Sb.refl | exact Sb.app0 | apply Sb.keep | apply Sb.keepApp | apply Sb.cons | apply Sb.app))), ?_⟩
              refine xm_gtake 11 (m' := 4095) rfl (by kernel_rfl) (by first | exact Sb.refl | exact Sb.nil | (repeat (first | exact Sb.nil | exact Sb.refl | exact Sb.app0 | apply Sb.keep | apply Sb.keepApp | apply Sb.cons | apply Sb.app))) rfl rfl (rd_neq rfl rfl) rfl (by kernel_rfl) ?_
              refine xm_take 12 (m' := 8191) rfl (by kernel_rfl) (by first | exact Sb.refl | exact Sb.nil | (repeat (first | exact Sb.nil | exact Sb.refl | exact Sb.app0 | apply Sb.keep | apply Sb.keepApp | apply Sb.cons | apply Sb.app))) (rd_pickf rfl rfl) rfl (by kernel_rfl) ?_
              refine xm_done (by kernel_rfl) ?_
              refine xq_seq ?_
              refine xc_ndec rfl (fun hq2 => ?_) (fun hq2 => (by exfalso; omega))
              refine xc_seq ?_
              refine xc_region ?_
              refine xo_rd (rd_build rfl rfl rfl) rfl ?_
              refine xo_ef rfl (ef_storeB [_] _ rfl rfl (by first | rfl | assumption) rfl rfl rfl ?_)
              refine xo_rd (rd_assign rfl) rfl ?_
              refine xo_nil ?_
              refine xq_seq ?_
              refine xc_ret ?_
              refine xq_then_ret ?_
              rotate_left
            all_goals exact xq_retB2 (.inl rfl) Try.results73 rfl rfl Kn.o1 rfl ((List.sublist_append_right l L).trans (.cons _ (.cons _ (.cons _ (List.Sublist.refl _))))) (ByT.err 63)
          · rw [if_neg hbad] at hz
            simp only [Prod.mk.injEq] at hz
            obtain ⟨rfl, rfl⟩ := hz
            have hrq2 : Rs W L (slp (some ⟨b, o, none⟩) c (4 * (i : Int) + 1).toNat 1) (ints .u8 ((bs.drop (4 * i + 1)).take z)) := by
              rw [show (4 * (i : Int) + 1).toNat = 4 * i + 1 from by omega, ints_take, ints_drop]
              exact (hr.slp c (4 * i + 1) (by rw [ints_len]; omega)).take z
            have hln2 : ((bs.drop (4 * i + 1)).take z).length = (((4 * i + 1 + z : Nat) : Int)).toNat - (4 * (i : Int) + 1).toNat := by rw [List.length_take, List.length_drop]; omega
            focus
              refine xc_seq ?_
              refine xc_seq ?_
              refine xc_drawM [0, 0, 2, 4, 9, 16, 32, 96, 32, 288, 544, 1184, 2080] [0, 0, 2, 4, 9, 16, 32, 96, 32, 288, 544, 1184, 2080] ([(r1, .cells #[.int .u8 i, .int .u8 kd, .slice (some ⟨b, o, none⟩) bs.length c, .int .u8 pd] 46 (0, 0))]) (by kernel_rfl) (by kernel_rfl) (by kernel_rfl) ?_
              refine xm_take 0 (m' := 1) rfl (by kernel_rfl) (by first | exact Sb.refl | exact Sb.nil | (repeat (first | exact Sb.nil | exact Sb.refl | exact Sb.app0 | apply Sb.keep | apply Sb.keepApp | apply Sb.cons | apply Sb.app))) (rd_move rfl) rfl (by kernel_rfl) ?_
              refine xm_take 1 (m' := 3) rfl (by kernel_rfl) (by first | exact Sb.refl | exact Sb.nil | (repeat (first | exact Sb.nil | exact Sb.refl | exact Sb.app0 | apply Sb.keep | apply Sb.keepApp | apply Sb.cons | apply Sb.app))) (rd_fieldAddr rfl) rfl (by kernel_rfl) ?_
              refine xm_take 2 (m' := 7) rfl (by kernel_rfl) (by first | exact Sb.refl | exact Sb.nil | (repeat (first | exact Sb.nil | exact Sb.refl | exact Sb.app0 | apply Sb.keep | apply Sb.keepApp | apply Sb.cons | apply Sb.app))) (rd_load1 rfl (Cl.o0 rfl)) rfl (by kernel_rfl) ?_
              refine xm_take 3 (m' := 15) rfl (by kernel_rfl) (by first | exact Sb.refl | exact Sb.nil | (repeat (first | exact Sb.nil | exact Sb.refl | exact Sb.app0 | apply Sb.keep | apply Sb.keepApp | apply Sb.cons | apply Sb.app))) (rd_len rfl) rfl (by kernel_rfl) ?_
              refine xm_take 4 (m' := 31) rfl (by kernel_rfl) (by first | exact Sb.refl | exact Sb.nil | (repeat (first | exact Sb.nil | exact Sb.refl | exact Sb.app0 | apply Sb.keep | apply Sb.keepApp | apply Sb.cons | apply Sb.app))) (rd_gtr rfl rfl) rfl (by kernel_rfl) ?_
              refine xm_take 5 (m' := 63) rfl (by kernel_rfl) (by first | exact Sb.refl | exact Sb.nil | (repeat (first | exact Sb.nil | exact Sb.refl | exact Sb.app0 | apply Sb.keep | apply Sb.keepApp | apply Sb.cons | apply Sb.app))) (rd_move rfl) rfl (by kernel_rfl) ?_
              refine xm_dec 64 rfl (fun hq1 => (by exfalso; omega)) (fun hq1 => ?_)
              refine xm_gtake 6 (m' := 127) rfl (by kernel_rfl) (by first | exact Sb.refl | exact Sb.nil | (repeat (first | exact Sb.nil | exact Sb.refl | exact Sb.app0 | apply Sb.keep | apply Sb.keepApp | apply Sb.cons | apply Sb.app))) rfl rfl (rd_move rfl) rfl (by kernel_rfl) ?_
              refine xm_gtake 8 (m' := 383) rfl (by kernel_rfl) (by first | exact Sb.refl | exact Sb.nil | (repeat (first | exact Sb.nil | exact Sb.refl | exact Sb.app0 | apply Sb.keep | apply Sb.keepApp | apply Sb.cons | apply Sb.app))) rfl rfl (rd_fieldAddr rfl) rfl (by kernel_rfl) ?_
              refine xm_gtake 9 (m' := 895) rfl (by kernel_rfl) (by first | exact Sb.refl | exact Sb.nil | (repeat (first | exact Sb.nil | exact Sb.refl | exact Sb.app0 | apply Sb.keep | apply Sb.keepApp | apply Sb.cons | apply Sb.app))) rfl rfl (rd_load1 rfl (Cl.o0 rfl)) rfl (by kernel_rfl) ?_
              refine xm_gtake 10 (m' := 1919) rfl (by kernel_rfl) (by first | exact Sb.refl | exact Sb.nil | (repeat (first | exact Sb.nil | exact Sb.refl | exact Sb.app0 | apply Sb.keep | apply Sb.keepApp | apply Sb.cons | apply Sb.app))) rfl rfl (rd_len rfl) rfl (by kernel_rfl) ?_
              refine xm_gone 7 (m' := 2047) rfl (by kernel_rfl) rfl rfl rfl (by kernel_rfl) (ef_call rfl (XF.mono (xf_word (4 * i + 1 + z) (by omega)) ?_))
              rintro v L' ⟨rfl, rfl⟩
              refine ⟨(by first | exact Sb.refl | exact Sb.nil | (repeat (first | exact Sb.nil | exact Sb.refl | exact Sb.app0 | apply Sb.keep | apply Sb.keepApp | apply Sb.cons | apply Sb.app))), ?_⟩
              refine xm_gtake 11 (m' := 4095) rfl (by kernel_rfl) (by first | exact Sb.refl | exact Sb.nil | (repeat (first | exact Sb.nil | exact Sb.refl | exact Sb.app0 | apply Sb.keep | apply Sb.keepApp | apply Sb.cons | apply Sb.app))) rfl rfl (rd_neq rfl rfl) rfl (by kernel_rfl) ?_
              refine xm_take 12 (m' := 8191) rfl (by kernel_rfl) (by first | exact Sb.refl | exact Sb.nil | (repeat (first | exact Sb.nil | exact Sb.refl | exact Sb.app0 | apply Sb.keep | apply Sb.keepApp | apply Sb.cons | apply Sb.app))) (rd_pickf rfl rfl) rfl (by kernel_rfl) ?_
              refine xm_done (by kernel_rfl) ?_
              refine xq_seq ?_
              refine xc_ndec rfl (fun hq2 => (by exfalso; omega)) (fun hq2 => ?_)
              refine xc_skip ?_
              refine xq_seq ?_
              refine xc_seq ?_
              refine xc_region ?_
              refine xo_rd (rd_fieldAddr rfl) rfl ?_
              refine xo_rd (rd_load1 rfl (Cl.o2 rfl)) rfl ?_
              refine xo_rd (rd_move rfl) rfl ?_
              refine xo_rd (rd_addn rfl rfl (by omega) (by omega)) rfl ?_
              refine xo_rd (rd_move rfl) rfl ?_
              refine xo_rd (rd_slLH rfl rfl rfl (by omega) (by omega) (by omega)) rfl ?_
              refine xo_rd (rd_convStr (hrq2.mono (by intro z hz; simp [hz])) rfl hln2) rfl ?_
              refine xo_rd (rd_fieldAddr rfl) rfl ?_
              refine xo_ef rfl (ef_store1 [] _ rfl rfl (by first | rfl | assumption) rfl rfl rfl ?_)
              refine xo_nil ?_
              refine xq_seq ?_
              refine xc_seq ?_
              refine xc_region ?_
              refine xo_rd (rd_loadB rfl Kn.o0 (by rfl)) rfl ?_
              refine xo_ef rfl (ef_storeB [_] _ rfl rfl (by first | rfl | assumption) rfl rfl rfl ?_)
              refine xo_rd (rd_assign rfl) rfl ?_
              refine xo_nil ?_
              refine xq_seq ?_
              refine xc_ret ?_
            exact xq_sub (.cons _ (.cons_cons _ (.cons _ (List.Sublist.refl _)))) (xq_retB2 (.inl rfl) Try.results73 rfl rfl Kn.o0 rfl (List.sublist_cons_self _ _) ⟨s, k, l, by dsimp only; rw [hll]; rfl, by dsimp only; rw [hll]; exact hO, rfl⟩)
  · rw [if_pos hk] at hz
    simp only [Prod.mk.injEq] at hz
    obtain ⟨rfl, rfl⟩ := hz
    focus
      refine xc_seq ?_
      refine xc_region ?_
      refine xo_ef rfl (ef_box rfl fun r1 => ?_)
      refine xo_ef rfl (ef_alloc fun r2 => ?_)
      refine xo_rd (rd_assign rfl) rfl ?_
      refine xo_nil ?_
      refine xq_seq ?_
      refine xc_seq ?_
      refine xc_seq ?_
      refine xc_region ?_
      refine xo_rd (rd_fieldAddr rfl) rfl ?_
      refine xo_rd (rd_load1 rfl (Cl.o1 rfl)) rfl ?_
      refine xo_rd (rd_neq rfl rfl) rfl ?_
      refine xo_nil ?_
      refine xq_seq ?_
      refine xc_ndec rfl (fun hq1 => ?_) (fun hq1 => (by exfalso; omega))
      refine xc_seq ?_
      refine xc_region ?_
      refine xo_rd (rd_build rfl rfl rfl) rfl ?_
      refine xo_ef rfl (ef_storeB [] _ rfl rfl (by first | rfl | assumption) rfl rfl rfl ?_)
      refine xo_rd (rd_assign rfl) rfl ?_
      refine xo_nil ?_
      refine xq_seq ?_
      refine xc_ret ?_
      refine xq_then_ret ?_
    exact xq_retB2 (.inl rfl) Try.results73 rfl rfl Kn.o0 rfl ((List.sublist_cons_self _ _).trans (List.sublist_cons_self _ _)) (ByT.err 62)
theorem xf_ofSenderT {W : World} {L : List Blk} (y : Pb) (x : Sn) (e : Int) (hz : ofSn y.q = (x, e)) (hr : Rs W L y.p (ints .u8 y.q.bd)) (hg : y.q.Rg) (hc : y.q.bd.length ≤ y.c) (hn : y.q.bd.length ≤ 1000000) : XF Try.prog W 37 #[.agg y.enc.toArray] L (SnT 95 L x e) := by
  have := xf_ofSender y hr hg hc hn
  rwa [hz] at this
theorem xf_ofReceiverT {W : World} {L : List Blk} (y : Pb) (x : Int × List Bk) (e : Int) (hz : ofRc y.q = (x, e)) (hr : Rs W L y.p (ints .u8 y.q.bd)) (hg : y.q.Rg) (hc : y.q.bd.length ≤ y.c) (hn : y.q.bd.length ≤ 1000000) : XF Try.prog W 38 #[.agg y.enc.toArray] L (RcT 95 L x e) := by
  have := xf_ofReceiver y hr hg hc hn
  rwa [hz] at this
theorem xf_ofChunksT {W : World} {L : List Blk} (y : Pb) (x : List Ck) (e : Int) (hz : ofCh y.q = (x, e)) (hr : Rs W L y.p (ints .u8 y.q.bd)) (hg : y.q.Rg) (hc : y.q.bd.length ≤ y.c) (hn : y.q.bd.length ≤ 1000000) : XF Try.prog W 41 #[.agg y.enc.toArray] L (ChT 97 L x e) := by
  have := xf_ofChunks y hr hg hc hn
  rwa [hz] at this
theorem xf_ofByeT {W : World} {L : List Blk} (y : Pb) (x : By') (e : Int) (hz : ofBy y.q = (x, e)) (hr : Rs W L y.p (ints .u8 y.q.bd)) (hg : y.q.Rg) (hc : y.q.bd.length ≤ y.c) (hn : y.q.bd.length ≤ 1000000) : XF Try.prog W 43 #[.agg y.enc.toArray] L (ByT 49 L x e) := by
  have := xf_ofBye y hr hg hc hn
  rwa [hz] at this
theorem ofSn_few (q : Pc) (hg : q.Rg) : (ofSn q).1.bl.length ≤ 255 := by
  have h := hg.ct
  unfold By at h
  obtain ⟨n, hn⟩ : ∃ n : Nat, q.ct = n := ⟨q.ct.toNat, by omega⟩
  rw [ofSn_eq hg hn]
  split
  · exact Nat.zero_le _
  · split
    · exact Nat.zero_le _
    · dsimp only; rw [bksAt_len]; omega
theorem ofRc_few (q : Pc) (hg : q.Rg) : (ofRc q).1.2.length ≤ 255 := by
  have h := hg.ct
  unfold By at h
  obtain ⟨n, hn⟩ : ∃ n : Nat, q.ct = n := ⟨q.ct.toNat, by omega⟩
  rw [ofRc_eq hg hn]
  split
  · exact Nat.zero_le _
  · split
    · exact Nat.zero_le _
    · dsimp only; rw [bksAt_len]; omega
theorem ofCh_few (q : Pc) (hg : q.Rg) : (ofCh q).1.length ≤ 255 := by
  have h := hg.ct
  unfold By at h
  unfold ofCh
  split
  · dsimp only; rw [Rd.chs_len]; omega
  · exact Nat.zero_le _
theorem ofBy_few (q : Pc) (hg : q.Rg) : (ofBy q).1.so.length ≤ 255 := by
  have h := hg.ct
  unfold By at h
  unfold ofBy
  split
  · dsimp only
    unfold Rd.bye
    split
    · dsimp only; rw [Rd.lgs_len]; omega
    · dsimp only; rw [Rd.lgs_len]; omega
  · exact Nat.zero_le _
set_option maxHeartbeats 8000000 in
theorem xf_RtcpTells {W : World} (x : Pb) (hr : Rs W [] x.p (ints .u8 x.q.bd)) (hg : x.q.Rg) (hc : x.q.bd.length ≤ x.c) (hn : x.q.bd.length ≤ 9223372036854775807) :
    XF Try.prog W 45 #[.agg x.enc.toArray] [] (fun v L' => v = .bool true) := by
  refine xf_enter (args := [_]) Try.func45 rfl Try.ntmps45 rfl ?_
  by_cases hf0 : 1000 < x.q.bd.length
  · skip
    focus
      refine xc_seq ?_
      refine xc_region ?_
      refine xo_ef rfl (ef_box rfl fun r1 => ?_)
      refine xo_rd (rd_assign rfl) rfl ?_
      refine xo_nil ?_
      refine xq_seq ?_
      refine xc_seq ?_
      refine xc_seq ?_
      refine xc_region ?_
      refine xo_rd (rd_fieldAddr rfl) rfl ?_
      refine xo_rd (rd_load1 rfl (Cl.o0 rfl)) rfl ?_
      refine xo_rd (rd_len rfl) rfl ?_
      refine xo_rd (rd_gtr rfl rfl) rfl ?_
      refine xo_nil ?_
      refine xq_seq ?_
      refine xc_dec rfl (fun h1 => ?_) (fun h1 => (by exfalso; omega))
      refine xc_seq ?_
      refine xc_region ?_
      refine xo_ef rfl (ef_call rfl (XF.mono (xf_any (fun W => xf_works)) ?_))
      rintro v L' ⟨rfl, rfl⟩
      refine xo_rd (rd_assign rfl) rfl ?_
      refine xo_nil ?_
      refine xq_seq ?_
      refine xc_ret ?_
      refine xq_then_ret ?_
      exact xq_ret1 (.inl rfl) Try.results45 rfl (rfl)
  obtain ⟨⟨z1, e1⟩, hz1⟩ : ∃ z, ofSn x.q = z := ⟨_, rfl⟩
  obtain ⟨⟨z2, e2⟩, hz2⟩ : ∃ z, ofRc x.q = z := ⟨_, rfl⟩
  obtain ⟨⟨z3, e3⟩, hz3⟩ : ∃ z, ofCh x.q = z := ⟨_, rfl⟩
  obtain ⟨⟨z4, e4⟩, hz4⟩ : ∃ z, ofBy x.q = z := ⟨_, rfl⟩
  have f1 : z1.bl.length ≤ 255 := by have := ofSn_few x.q hg; rwa [hz1] at this
  have f2 : z2.2.length ≤ 255 := by have := ofRc_few x.q hg; rwa [hz2] at this
  have f3 : z3.length ≤ 255 := by have := ofCh_few x.q hg; rwa [hz3] at this
  have f4 : z4.so.length ≤ 255 := by have := ofBy_few x.q hg; rwa [hz4] at this
  obtain ⟨s2, l2⟩ := z2
  dsimp only at f2
  focus
    refine xc_seq ?_
    refine xc_region ?_
    refine xo_ef rfl (ef_box rfl fun r1 => ?_)
    refine xo_rd (rd_assign rfl) rfl ?_
    refine xo_nil ?_
    refine xq_seq ?_
    refine xc_seq ?_
    refine xc_seq ?_
    refine xc_region ?_
    refine xo_rd (rd_fieldAddr rfl) rfl ?_
    refine xo_rd (rd_load1 rfl (Cl.o0 rfl)) rfl ?_
    refine xo_rd (rd_len rfl) rfl ?_
    refine xo_rd (rd_gtr rfl rfl) rfl ?_
    refine xo_nil ?_
    refine xq_seq ?_
    refine xc_dec rfl (fun hq1 => (by exfalso; omega)) (fun hq1 => ?_)
    refine xc_skip ?_
    refine xq_seq ?_
    refine xc_seq ?_
    refine xc_region ?_
    refine xo_rd (rd_loadB rfl Kn.o0 (by rfl)) rfl ?_
    refine xo_ef rfl (ef_call rfl (XF.mono (xf_doc2 x hr.nilL (by omega)) ?_))
    rintro v L' ⟨y, rfl, hyq, hyo, rfl⟩
    refine xo_seg [_] y.l _ ?_
    refine xo_ef rfl (ef_alloc fun r3 => ?_)
    refine xo_ef rfl (ef_storeB [] _ rfl rfl (by first | rfl | assumption) rfl rfl rfl ?_)
    refine xo_nil ?_
    refine xq_seq ?_
  have hyr : ∀ A, Rs W (A ++ (y.l ++ [])) y.p (ints .u8 y.q.bd) := fun A => SlO.rs hyo fun z hz => List.mem_append_right _ (List.mem_append_left _ hz)
  have gy : y.q.Rg := by rw [hyq]; exact hg
  have cy := hyo.cap.2
  have ny : y.q.bd.length ≤ 1000000 := by rw [hyq]; omega
  focus
    refine xc_seq ?_
    refine xc_region ?_
    refine xo_rd (rd_loadB rfl Kn.o1 (by rfl)) rfl ?_
    refine xo_ef rfl (ef_call rfl (XF.mono (xf_ofSenderT x z1 e1 hz1 hr.nilL hg hc (by omega)) ?_))
    rintro v L' ⟨k1, j1, i1, rfl, hO1, rfl⟩
    refine xo_seg [_, _] i1 _ ?_
    refine xo_rd (rd_move rfl) rfl ?_
    refine xo_rd (rd_extract rfl rfl) rfl ?_
    refine xo_rd (rd_extract rfl rfl) rfl ?_
    refine xo_ef rfl (ef_alloc fun r4 => ?_)
    refine xo_ef rfl (ef_storeB [] _ rfl rfl (by first | rfl | assumption) rfl rfl rfl ?_)
    refine xo_rd (rd_assign rfl) rfl ?_
    refine xo_nil ?_
    refine xq_seq ?_
    refine xc_seq ?_
    refine xc_region ?_
    refine xo_rd (rd_loadB rfl Kn.o1 (by rfl)) rfl ?_
    refine xo_ef rfl (ef_call rfl (XF.mono (xf_rofSender y z1 e1 (by rw [hyq]; exact hz1) (SlO.rs hyo (by intro z hz; simp [hz])) gy cy ny) ?_))
    rintro v L' ⟨k2, j2, i2, rfl, hO2, rfl⟩
    refine xo_seg [_, _, _] i2 _ ?_
    refine xo_rd (rd_move rfl) rfl ?_
    refine xo_rd (rd_extract rfl rfl) rfl ?_
    refine xo_rd (rd_extract rfl rfl) rfl ?_
    refine xo_ef rfl (ef_alloc fun r6 => ?_)
    refine xo_ef rfl (ef_storeB [] _ rfl rfl (by first | rfl | assumption) rfl rfl rfl ?_)
    refine xo_rd (rd_assign rfl) rfl ?_
    refine xo_nil ?_
    refine xq_seq ?_
    refine xc_seq ?_
    refine xc_region ?_
    refine xo_rd (rd_loadB rfl Kn.o3 (by rfl)) rfl ?_
    refine xo_ef rfl (ef_call rfl (XF.mono (xf_ofReceiverT x (s2, l2) e2 hz2 hr.nilL hg hc (by omega)) ?_))
    rintro v L' ⟨k3, j3, i3, rfl, hO3, rfl⟩
    refine xo_seg [_, _, _, _] i3 _ ?_
    refine xo_rd (rd_move rfl) rfl ?_
    refine xo_rd (rd_extract rfl rfl) rfl ?_
    refine xo_rd (rd_extract rfl rfl) rfl ?_
    refine xo_ef rfl (ef_alloc fun r8 => ?_)
    refine xo_ef rfl (ef_storeB [] _ rfl rfl (by first | rfl | assumption) rfl rfl rfl ?_)
    refine xo_rd (rd_assign rfl) rfl ?_
    refine xo_nil ?_
    refine xq_seq ?_
    refine xc_seq ?_
    refine xc_region ?_
    refine xo_rd (rd_loadB rfl Kn.o3 (by rfl)) rfl ?_
    refine xo_ef rfl (ef_call rfl (XF.mono (xf_rofReceiver y (s2, l2) e2 (by rw [hyq]; exact hz2) (SlO.rs hyo (by intro z hz; simp [hz])) gy cy ny) ?_))
    rintro v L' ⟨k4, j4, i4, rfl, hO4, rfl⟩
    refine xo_seg [_, _, _, _, _] i4 _ ?_
    refine xo_rd (rd_move rfl) rfl ?_
    refine xo_rd (rd_extract rfl rfl) rfl ?_
    refine xo_rd (rd_extract rfl rfl) rfl ?_
    refine xo_ef rfl (ef_alloc fun r10 => ?_)
    refine xo_ef rfl (ef_storeB [] _ rfl rfl (by first | rfl | assumption) rfl rfl rfl ?_)
    refine xo_rd (rd_assign rfl) rfl ?_
    refine xo_nil ?_
    refine xq_seq ?_
    refine xc_seq ?_
    refine xc_region ?_
    refine xo_rd (rd_loadB rfl Kn.o5 (by rfl)) rfl ?_
    refine xo_ef rfl (ef_call rfl (XF.mono (xf_ofChunksT x z3 e3 hz3 hr.nilL hg hc (by omega)) ?_))
    rintro v L' ⟨k5, j5, i5, rfl, hO5, rfl⟩
    refine xo_seg [_, _, _, _, _, _] i5 _ ?_
    refine xo_rd (rd_move rfl) rfl ?_
    refine xo_rd (rd_extract rfl rfl) rfl ?_
    refine xo_rd (rd_extract rfl rfl) rfl ?_
    refine xo_rd (rd_assign rfl) rfl ?_
    refine xo_rd (rd_assign rfl) rfl ?_
    refine xo_nil ?_
    refine xq_seq ?_
    refine xc_seq ?_
    refine xc_region ?_
    refine xo_rd (rd_loadB rfl Kn.o4 (by rfl)) rfl ?_
    refine xo_ef rfl (ef_call rfl (XF.mono (xf_rofChunks y z3 e3 (by rw [hyq]; exact hz3) (SlO.rs hyo (by intro z hz; simp [hz])) gy cy ny) ?_))
    rintro v L' ⟨k6, j6, i6, rfl, hO6, rfl⟩
    refine xo_seg [_, _, _, _, _, _] i6 _ ?_
    refine xo_rd (rd_move rfl) rfl ?_
    refine xo_rd (rd_extract rfl rfl) rfl ?_
    refine xo_rd (rd_extract rfl rfl) rfl ?_
    refine xo_rd (rd_assign rfl) rfl ?_
    refine xo_rd (rd_assign rfl) rfl ?_
    refine xo_nil ?_
    refine xq_seq ?_
    refine xc_seq ?_
    refine xc_region ?_
    refine xo_rd (rd_loadB rfl Kn.o5 (by rfl)) rfl ?_
    refine xo_ef rfl (ef_call rfl (XF.mono (xf_ofByeT x z4 e4 hz4 hr.nilL hg hc (by omega)) ?_))
    rintro v L' ⟨k7, j7, i7, rfl, hO7, rfl⟩
    refine xo_seg [_, _, _, _, _, _] i7 _ ?_
    refine xo_rd (rd_move rfl) rfl ?_
    refine xo_rd (rd_extract rfl rfl) rfl ?_
    refine xo_rd (rd_extract rfl rfl) rfl ?_
    refine xo_ef rfl (ef_alloc fun r16 => ?_)
    refine xo_ef rfl (ef_storeB [] _ rfl rfl (by first | rfl | assumption) rfl rfl rfl ?_)
    refine xo_rd (rd_assign rfl) rfl ?_
    refine xo_nil ?_
    refine xq_seq ?_
    refine xc_seq ?_
    refine xc_region ?_
    refine xo_rd (rd_loadB rfl Kn.o5 (by rfl)) rfl ?_
    refine xo_ef rfl (ef_call rfl (XF.mono (xf_rofBye y z4 e4 (by rw [hyq]; exact hz4) (SlO.rs hyo (by intro z hz; simp [hz])) gy cy ny) ?_))
    rintro v L' ⟨k8, j8, i8, rfl, hO8, rfl⟩
    refine xo_seg [_, _, _, _, _, _, _] i8 _ ?_
    refine xo_rd (rd_move rfl) rfl ?_
    refine xo_rd (rd_extract rfl rfl) rfl ?_
    refine xo_rd (rd_extract rfl rfl) rfl ?_
    refine xo_ef rfl (ef_alloc fun r18 => ?_)
    refine xo_ef rfl (ef_storeB [] _ rfl rfl (by first | rfl | assumption) rfl rfl rfl ?_)
    refine xo_rd (rd_assign rfl) rfl ?_
    refine xo_nil ?_
    refine xq_seq ?_
  refine xc_sub (L' := (r18, .cells (z4.enc (.slice k8 z4.so.length j8)).toArray 78 (0, 0)) :: (r16, .cells (z4.enc (.slice k7 z4.so.length j7)).toArray 57 (0, 0)) :: (r10, .cells #[.int .u32 s2, .slice k4 l2.length j4] 72 (0, 0)) :: (r8, .cells #[.int .u32 s2, .slice k3 l2.length j3] 60 (0, 0)) :: (r6, .cells (z1.enc (.slice k2 z1.bl.length j2)).toArray 68 (0, 0)) :: (r4, .cells (z1.enc (.slice k1 z1.bl.length j1)).toArray 53 (0, 0)) :: (r3, .cells y.enc.toArray 46 (0, 0)) :: (r1, .cells x.enc.toArray 35 (0, 0)) :: (i8 ++ (i7 ++ (i6 ++ (i5 ++ (i4 ++ (i3 ++ (i2 ++ (i1 ++ (y.l ++ [])))))))))) (List.Sublist.refl _) ?_
  focus
    refine xc_seq ?_
    refine xc_drawM [0, 0, 3, 4, 8, 8, 56, 72, 136, 256, 256, 1792, 2304, 4352, 8192, 8192, 57344, 73728, 139264, 262144, 786432, 262144, 3407872, 4456448, 12582912, 16777216, 50331648, 16777216, 218103808, 285212672, 805306368, 1073741824, 1073741824, 7516192768, 9663676416, 25769803776, 34359738368, 34359738368, 240518168576, 309237645312, 824633720832, 1099511627776, 3298534883328, 1099511627776, 14293651161088, 18691697672192, 52776558133248, 70368744177664, 211106232532992, 562949953421311] [0, 0, 3, 4, 8, 8, 56, 72, 136, 256, 256, 1792, 2304, 4352, 8192, 8192, 57344, 73728, 139264, 262144, 786432, 262144, 3407872, 4456448, 12582912, 16777216, 50331648, 16777216, 218103808, 285212672, 805306368, 1073741824, 1073741824, 7516192768, 9663676416, 25769803776, 34359738368, 34359738368, 240518168576, 309237645312, 824633720832, 1099511627776, 3298534883328, 1099511627776, 14293651161088, 18691697672192, 52776558133248, 70368744177664, 211106232532992, 562949953421311] ([(r18, .cells (z4.enc (.slice k8 z4.so.length j8)).toArray 78 (0, 0)), (r16, .cells (z4.enc (.slice k7 z4.so.length j7)).toArray 57 (0, 0)), (r10, .cells #[.int .u32 s2, .slice k4 l2.length j4] 72 (0, 0)), (r8, .cells #[.int .u32 s2, .slice k3 l2.length j3] 60 (0, 0)), (r6, .cells (z1.enc (.slice k2 z1.bl.length j2)).toArray 68 (0, 0)), (r4, .cells (z1.enc (.slice k1 z1.bl.length j1)).toArray 53 (0, 0)), (r3, .cells y.enc.toArray 46 (0, 0)), (r1, .cells x.enc.toArray 35 (0, 0))]) (by kernel_rfl) (by kernel_rfl) (by kernel_rfl) ?_
    refine xm_take 0 (m' := 1) rfl (by kernel_rfl) (by first | exact Sb.refl | exact Sb.nil | (repeat (first | exact Sb.nil | exact Sb.refl | exact Sb.app0 | apply Sb.keep | apply Sb.keepApp | apply Sb.cons | apply Sb.app))) (rd_move rfl) rfl (by kernel_rfl) ?_
    refine xm_take 1 (m' := 3) rfl (by kernel_rfl) (by first | exact Sb.refl | exact Sb.nil | (repeat (first | exact Sb.nil | exact Sb.refl | exact Sb.app0 | apply Sb.keep | apply Sb.keepApp | apply Sb.cons | apply Sb.app))) (rd_move rfl) rfl (by kernel_rfl) ?_
    refine xm_take 2 (m' := 7) rfl (by kernel_rfl) (by first | exact Sb.refl | exact Sb.nil | (repeat (first | exact Sb.nil | exact Sb.refl | exact Sb.app0 | apply Sb.keep | apply Sb.keepApp | apply Sb.cons | apply Sb.app))) (rd_cast (v' := .bool true) (rd_eql rfl rfl) (congrArg Value.bool (decide_eq_true rfl))) rfl (by kernel_rfl) ?_
    refine xm_take 3 (m' := 15) rfl (by kernel_rfl) (by first | exact Sb.refl | exact Sb.nil | (repeat (first | exact Sb.nil | exact Sb.refl | exact Sb.app0 | apply Sb.keep | apply Sb.keepApp | apply Sb.cons | apply Sb.app))) (rd_move rfl) rfl (by kernel_rfl) ?_
    refine xm_gtake 4 (m' := 31) rfl (by kernel_rfl) (by first | exact Sb.refl | exact Sb.nil | (repeat (first | exact Sb.nil | exact Sb.refl | exact Sb.app0 | apply Sb.keep | apply Sb.keepApp | apply Sb.cons | apply Sb.app))) rfl rfl (rd_move rfl) rfl (by kernel_rfl) ?_
    refine xm_gtake 5 (m' := 63) rfl (by kernel_rfl) (by first | exact Sb.refl | exact Sb.nil | (repeat (first | exact Sb.nil | exact Sb.refl | exact Sb.app0 | apply Sb.keep | apply Sb.keepApp | apply Sb.cons | apply Sb.app))) rfl rfl (rd_move rfl) rfl (by kernel_rfl) ?_
    refine xm_gtake 6 (m' := 127) rfl (by kernel_rfl) (by first | exact Sb.refl | exact Sb.nil | (repeat (first | exact Sb.nil | exact Sb.refl | exact Sb.app0 | apply Sb.keep | apply Sb.keepApp | apply Sb.cons | apply Sb.app))) rfl rfl (rd_cast (v' := .bool true) (rd_eql rfl rfl) (congrArg Value.bool (decide_eq_true rfl))) rfl (by kernel_rfl) ?_
    refine xm_take 7 (m' := 255) rfl (by kernel_rfl) (by first | exact Sb.refl | exact Sb.nil | (repeat (first | exact Sb.nil | exact Sb.refl | exact Sb.app0 | apply Sb.keep | apply Sb.keepApp | apply Sb.cons | apply Sb.app))) (rd_pickt rfl rfl) rfl (by kernel_rfl) ?_
    refine xm_take 8 (m' := 511) rfl (by kernel_rfl) (by first | exact Sb.refl | exact Sb.nil | (repeat (first | exact Sb.nil | exact Sb.refl | exact Sb.app0 | apply Sb.keep | apply Sb.keepApp | apply Sb.cons | apply Sb.app))) (rd_move rfl) rfl (by kernel_rfl) ?_
    refine xm_gtake 9 (m' := 1023) rfl (by kernel_rfl) (by first | exact Sb.refl | exact Sb.nil | (repeat (first | exact Sb.nil | exact Sb.refl | exact Sb.app0 | apply Sb.keep | apply Sb.keepApp | apply Sb.cons | apply Sb.app))) rfl rfl (rd_move rfl) rfl (by kernel_rfl) ?_
    refine xm_gtake 10 (m' := 2047) rfl (by kernel_rfl) (by first | exact Sb.refl | exact Sb.nil | (repeat (first | exact Sb.nil | exact Sb.refl | exact Sb.app0 | apply Sb.keep | apply Sb.keepApp | apply Sb.cons | apply Sb.app))) rfl rfl (rd_move rfl) rfl (by kernel_rfl) ?_
    refine xm_gtake 11 (m' := 4095) rfl (by kernel_rfl) (by first | exact Sb.refl | exact Sb.nil | (repeat (first | exact Sb.nil | exact Sb.refl | exact Sb.app0 | apply Sb.keep | apply Sb.keepApp | apply Sb.cons | apply Sb.app))) rfl rfl (rd_cast (v' := .bool true) (rd_eql rfl rfl) (congrArg Value.bool (decide_eq_true rfl))) rfl (by kernel_rfl) ?_
    refine xm_take 12 (m' := 8191) rfl (by kernel_rfl) (by first | exact Sb.refl | exact Sb.nil | (repeat (first | exact Sb.nil | exact Sb.refl | exact Sb.app0 | apply Sb.keep | apply Sb.keepApp | apply Sb.cons | apply Sb.app))) (rd_pickt rfl rfl) rfl (by kernel_rfl) ?_
    refine xm_take 13 (m' := 16383) rfl (by kernel_rfl) (by first | exact Sb.refl | exact Sb.nil | (repeat (first | exact Sb.nil | exact Sb.refl | exact Sb.app0 | apply Sb.keep | apply Sb.keepApp | apply Sb.cons | apply Sb.app))) (rd_move rfl) rfl (by kernel_rfl) ?_
    refine xm_gtake 14 (m' := 32767) rfl (by kernel_rfl) (by first | exact Sb.refl | exact Sb.nil | (repeat (first | exact Sb.nil | exact Sb.refl | exact Sb.app0 | apply Sb.keep | apply Sb.keepApp | apply Sb.cons | apply Sb.app))) rfl rfl (rd_move rfl) rfl (by kernel_rfl) ?_
    refine xm_gtake 15 (m' := 65535) rfl (by kernel_rfl) (by first | exact Sb.refl | exact Sb.nil | (repeat (first | exact Sb.nil | exact Sb.refl | exact Sb.app0 | apply Sb.keep | apply Sb.keepApp | apply Sb.cons | apply Sb.app))) rfl rfl (rd_move rfl) rfl (by kernel_rfl) ?_
    refine xm_gtake 16 (m' := 131071) rfl (by kernel_rfl) (by first | exact Sb.refl | exact Sb.nil | (repeat (first | exact Sb.nil | exact Sb.refl | exact Sb.app0 | apply Sb.keep | apply Sb.keepApp | apply Sb.cons | apply Sb.app))) rfl rfl (rd_cast (v' := .bool true) (rd_eql rfl rfl) (congrArg Value.bool (decide_eq_true rfl))) rfl (by kernel_rfl) ?_
    refine xm_take 17 (m' := 262143) rfl (by kernel_rfl) (by first | exact Sb.refl | exact Sb.nil | (repeat (first | exact Sb.nil | exact Sb.refl | exact Sb.app0 | apply Sb.keep | apply Sb.keepApp | apply Sb.cons | apply Sb.app))) (rd_pickt rfl rfl) rfl (by kernel_rfl) ?_
    refine xm_take 18 (m' := 524287) rfl (by kernel_rfl) (by first | exact Sb.refl | exact Sb.nil | (repeat (first | exact Sb.nil | exact Sb.refl | exact Sb.app0 | apply Sb.keep | apply Sb.keepApp | apply Sb.cons | apply Sb.app))) (rd_move rfl) rfl (by kernel_rfl) ?_
    refine xm_gtake 19 (m' := 1048575) rfl (by kernel_rfl) (by first | exact Sb.refl | exact Sb.nil | (repeat (first | exact Sb.nil | exact Sb.refl | exact Sb.app0 | apply Sb.keep | apply Sb.keepApp | apply Sb.cons | apply Sb.app))) rfl rfl (rd_loadB rfl Kn.o5 (by rfl)) rfl (by kernel_rfl) ?_
    refine xm_gtake 21 (m' := 3145727) rfl (by kernel_rfl) (by first | exact Sb.refl | exact Sb.nil | (repeat (first | exact Sb.nil | exact Sb.refl | exact Sb.app0 | apply Sb.keep | apply Sb.keepApp | apply Sb.cons | apply Sb.app))) rfl rfl (rd_loadB rfl Kn.o4 (by rfl)) rfl (by kernel_rfl) ?_
    refine xm_gone 20 (m' := 4194303) rfl (by kernel_rfl) rfl rfl rfl (by kernel_rfl) (ef_call rfl (XF.mono (xf_dSender z1 k1 j1 (hO1.rs (by intro z hz; simp [hz])) (by omega)) ?_))
    rintro v L' ⟨s9, k9, l9, rfl, hO9, rfl⟩
    refine xmx_seg [_, _, _, _, _, _, _, _] l9 _ ?_
    refine ⟨(by first | exact Sb.refl | exact Sb.nil | (repeat (first | exact Sb.nil | exact Sb.refl | exact Sb.app0 | apply Sb.keep | apply Sb.keepApp | apply Sb.cons | apply Sb.app))), ?_⟩
    refine xm_gone 22 (m' := 8388607) rfl (by kernel_rfl) rfl rfl rfl (by kernel_rfl) (ef_call rfl (XF.mono (xf_sameSender z1 _ _ _ _ (hO9.rs (by intro z hz; simp [hz])) (hO2.rs (by intro z hz; simp [hz])) (by omega)) ?_))
    rintro v L' ⟨rfl, rfl⟩
    refine ⟨(by first | exact Sb.refl | exact Sb.nil | (repeat (first | exact Sb.nil | exact Sb.refl | exact Sb.app0 | apply Sb.keep | apply Sb.keepApp | apply Sb.cons | apply Sb.app))), ?_⟩
    refine xm_take 23 (m' := 16777215) rfl (by kernel_rfl) (by first | exact Sb.refl | exact Sb.nil | (repeat (first | exact Sb.nil | exact Sb.refl | exact Sb.app0 | apply Sb.keep | apply Sb.keepApp | apply Sb.cons | apply Sb.app))) (rd_pickt rfl rfl) rfl (by kernel_rfl) ?_
    refine xm_take 24 (m' := 33554431) rfl (by kernel_rfl) (by first | exact Sb.refl | exact Sb.nil | (repeat (first | exact Sb.nil | exact Sb.refl | exact Sb.app0 | apply Sb.keep | apply Sb.keepApp | apply Sb.cons | apply Sb.app))) (rd_move rfl) rfl (by kernel_rfl) ?_
    refine xm_gtake 25 (m' := 67108863) rfl (by kernel_rfl) (by first | exact Sb.refl | exact Sb.nil | (repeat (first | exact Sb.nil | exact Sb.refl | exact Sb.app0 | apply Sb.keep | apply Sb.keepApp | apply Sb.cons | apply Sb.app))) rfl rfl (rd_loadB rfl Kn.o3 (by rfl)) rfl (by kernel_rfl) ?_
    refine xm_gtake 27 (m' := 201326591) rfl (by kernel_rfl) (by first | exact Sb.refl | exact Sb.nil | (repeat (first | exact Sb.nil | exact Sb.refl | exact Sb.app0 | apply Sb.keep | apply Sb.keepApp | apply Sb.cons | apply Sb.app))) rfl rfl (rd_loadB rfl Kn.o2 (by rfl)) rfl (by kernel_rfl) ?_
    refine xm_gone 26 (m' := 268435455) rfl (by kernel_rfl) rfl rfl rfl (by kernel_rfl) (ef_call rfl (XF.mono (xf_dReceiver s2 k3 l2.length j3 l2 rfl (hO3.rs (by intro z hz; simp [hz])) (by omega)) ?_))
    rintro v L' ⟨s10, k10, l10, rfl, hO10, rfl⟩
    refine xmx_seg [_, _, _, _, _, _, _, _] l10 _ ?_
    refine ⟨(by first | exact Sb.refl | exact Sb.nil | (repeat (first | exact Sb.nil | exact Sb.refl | exact Sb.app0 | apply Sb.keep | apply Sb.keepApp | apply Sb.cons | apply Sb.app))), ?_⟩
    refine xm_gone 28 (m' := 536870911) rfl (by kernel_rfl) rfl rfl rfl (by kernel_rfl) (ef_call rfl (XF.mono (xf_sameReceiver s2 _ _ _ _ _ l2 rfl (hO10.rs (by intro z hz; simp [hz])) (hO4.rs (by intro z hz; simp [hz])) (by omega)) ?_))
    rintro v L' ⟨rfl, rfl⟩
    refine ⟨(by first | exact Sb.refl | exact Sb.nil | (repeat (first | exact Sb.nil | exact Sb.refl | exact Sb.app0 | apply Sb.keep | apply Sb.keepApp | apply Sb.cons | apply Sb.app))), ?_⟩
    refine xm_take 29 (m' := 1073741823) rfl (by kernel_rfl) (by first | exact Sb.refl | exact Sb.nil | (repeat (first | exact Sb.nil | exact Sb.refl | exact Sb.app0 | apply Sb.keep | apply Sb.keepApp | apply Sb.cons | apply Sb.app))) (rd_pickt rfl rfl) rfl (by kernel_rfl) ?_
    refine xm_take 30 (m' := 2147483647) rfl (by kernel_rfl) (by first | exact Sb.refl | exact Sb.nil | (repeat (first | exact Sb.nil | exact Sb.refl | exact Sb.app0 | apply Sb.keep | apply Sb.keepApp | apply Sb.cons | apply Sb.app))) (rd_move rfl) rfl (by kernel_rfl) ?_
    refine xm_gtake 31 (m' := 4294967295) rfl (by kernel_rfl) (by first | exact Sb.refl | exact Sb.nil | (repeat (first | exact Sb.nil | exact Sb.refl | exact Sb.app0 | apply Sb.keep | apply Sb.keepApp | apply Sb.cons | apply Sb.app))) rfl rfl (rd_move rfl) rfl (by kernel_rfl) ?_
    refine xm_gtake 32 (m' := 8589934591) rfl (by kernel_rfl) (by first | exact Sb.refl | exact Sb.nil | (repeat (first | exact Sb.nil | exact Sb.refl | exact Sb.app0 | apply Sb.keep | apply Sb.keepApp | apply Sb.cons | apply Sb.app))) rfl rfl (rd_move rfl) rfl (by kernel_rfl) ?_
    refine xm_gone 33 (m' := 17179869183) rfl (by kernel_rfl) rfl rfl rfl (by kernel_rfl) (ef_call rfl (XF.mono (xf_sameChunks _ _ z3.length _ _ z3 rfl (hO5.rs (by intro z hz; simp [hz])) (hO6.rs (by intro z hz; simp [hz])) (by omega)) ?_))
    rintro v L' ⟨rfl, rfl⟩
    refine ⟨(by first | exact Sb.refl | exact Sb.nil | (repeat (first | exact Sb.nil | exact Sb.refl | exact Sb.app0 | apply Sb.keep | apply Sb.keepApp | apply Sb.cons | apply Sb.app))), ?_⟩
    refine xm_take 34 (m' := 34359738367) rfl (by kernel_rfl) (by first | exact Sb.refl | exact Sb.nil | (repeat (first | exact Sb.nil | exact Sb.refl | exact Sb.app0 | apply Sb.keep | apply Sb.keepApp | apply Sb.cons | apply Sb.app))) (rd_pickt rfl rfl) rfl (by kernel_rfl) ?_
    refine xm_take 35 (m' := 68719476735) rfl (by kernel_rfl) (by first | exact Sb.refl | exact Sb.nil | (repeat (first | exact Sb.nil | exact Sb.refl | exact Sb.app0 | apply Sb.keep | apply Sb.keepApp | apply Sb.cons | apply Sb.app))) (rd_move rfl) rfl (by kernel_rfl) ?_
    refine xm_gtake 36 (m' := 137438953471) rfl (by kernel_rfl) (by first | exact Sb.refl | exact Sb.nil | (repeat (first | exact Sb.nil | exact Sb.refl | exact Sb.app0 | apply Sb.keep | apply Sb.keepApp | apply Sb.cons | apply Sb.app))) rfl rfl (rd_loadB rfl Kn.o1 (by rfl)) rfl (by kernel_rfl) ?_
    refine xm_gtake 37 (m' := 274877906943) rfl (by kernel_rfl) (by first | exact Sb.refl | exact Sb.nil | (repeat (first | exact Sb.nil | exact Sb.refl | exact Sb.app0 | apply Sb.keep | apply Sb.keepApp | apply Sb.cons | apply Sb.app))) rfl rfl (rd_loadB rfl Kn.o0 (by rfl)) rfl (by kernel_rfl) ?_
    refine xm_gone 38 (m' := 549755813887) rfl (by kernel_rfl) rfl rfl rfl (by kernel_rfl) (ef_call rfl (XF.mono (xf_sameBye z4 _ _ _ _ (hO7.rs (by intro z hz; simp [hz])) (hO8.rs (by intro z hz; simp [hz])) (by omega)) ?_))
    rintro v L' ⟨rfl, rfl⟩
    refine ⟨(by first | exact Sb.refl | exact Sb.nil | (repeat (first | exact Sb.nil | exact Sb.refl | exact Sb.app0 | apply Sb.keep | apply Sb.keepApp | apply Sb.cons | apply Sb.app))), ?_⟩
    refine xm_take 39 (m' := 1099511627775) rfl (by kernel_rfl) (by first | exact Sb.refl | exact Sb.nil | (repeat (first | exact Sb.nil | exact Sb.refl | exact Sb.app0 | apply Sb.keep | apply Sb.keepApp | apply Sb.cons | apply Sb.app))) (rd_pickt rfl rfl) rfl (by kernel_rfl) ?_
    refine xm_take 40 (m' := 2199023255551) rfl (by kernel_rfl) (by first | exact Sb.refl | exact Sb.nil | (repeat (first | exact Sb.nil | exact Sb.refl | exact Sb.app0 | apply Sb.keep | apply Sb.keepApp | apply Sb.cons | apply Sb.app))) (rd_move rfl) rfl (by kernel_rfl) ?_
    refine xm_gtake 41 (m' := 4398046511103) rfl (by kernel_rfl) (by first | exact Sb.refl | exact Sb.nil | (repeat (first | exact Sb.nil | exact Sb.refl | exact Sb.app0 | apply Sb.keep | apply Sb.keepApp | apply Sb.cons | apply Sb.app))) rfl rfl (rd_loadB rfl Kn.o7 (by rfl)) rfl (by kernel_rfl) ?_
    refine xm_gtake 43 (m' := 13194139533311) rfl (by kernel_rfl) (by first | exact Sb.refl | exact Sb.nil | (repeat (first | exact Sb.nil | exact Sb.refl | exact Sb.app0 | apply Sb.keep | apply Sb.keepApp | apply Sb.cons | apply Sb.app))) rfl rfl (rd_loadB rfl Kn.o6 (by rfl)) rfl (by kernel_rfl) ?_
    refine xm_gone 42 (m' := 17592186044415) rfl (by kernel_rfl) rfl rfl rfl (by kernel_rfl) (ef_call rfl (XF.mono (xf_doc2 x hr.nilL (by omega)) ?_))
    rintro v L' ⟨y2, rfl, hy2q, hy2o, rfl⟩
    refine xmx_seg [_, _, _, _, _, _, _, _] y2.l _ ?_
    refine ⟨(by first | exact Sb.refl | exact Sb.nil | (repeat (first | exact Sb.nil | exact Sb.refl | exact Sb.app0 | apply Sb.keep | apply Sb.keepApp | apply Sb.cons | apply Sb.app))), ?_⟩
    refine xm_gone 44 (m' := 35184372088831) rfl (by kernel_rfl) rfl rfl rfl (by kernel_rfl) (ef_call rfl (XF.mono (xf_rsame2 y2 y true (decide_eq_true (hy2q.trans hyq.symm)) (SlO.rs hy2o (by intro z hz; simp [hz])) (SlO.rs hyo (by intro z hz; simp [hz])) (by rw [hy2q]; exact hg) gy (by rw [hy2q]; omega)) ?_))
    rintro v L' ⟨rfl, rfl⟩
    refine ⟨(by first | exact Sb.refl | exact Sb.nil | (repeat (first | exact Sb.nil | exact Sb.refl | exact Sb.app0 | apply Sb.keep | apply Sb.keepApp | apply Sb.cons | apply Sb.app))), ?_⟩
    refine xm_take 45 (m' := 70368744177663) rfl (by kernel_rfl) (by first | exact Sb.refl | exact Sb.nil | (repeat (first | exact Sb.nil | exact Sb.refl | exact Sb.app0 | apply Sb.keep | apply Sb.keepApp | apply Sb.cons | apply Sb.app))) (rd_pickt rfl rfl) rfl (by kernel_rfl) ?_
    refine xm_take 46 (m' := 140737488355327) rfl (by kernel_rfl) (by first | exact Sb.refl | exact Sb.nil | (repeat (first | exact Sb.nil | exact Sb.refl | exact Sb.app0 | apply Sb.keep | apply Sb.keepApp | apply Sb.cons | apply Sb.app))) (rd_move rfl) rfl (by kernel_rfl) ?_
    refine xm_gone 47 (m' := 281474976710655) rfl (by kernel_rfl) rfl rfl rfl (by kernel_rfl) (ef_call rfl (XF.mono (xf_any (fun W => xf_works)) ?_))
    rintro v L' ⟨rfl, rfl⟩
    refine ⟨(by first | exact Sb.refl | exact Sb.nil | (repeat (first | exact Sb.nil | exact Sb.refl | exact Sb.app0 | apply Sb.keep | apply Sb.keepApp | apply Sb.cons | apply Sb.app))), ?_⟩
    refine xm_take 48 (m' := 562949953421311) rfl (by kernel_rfl) (by first | exact Sb.refl | exact Sb.nil | (repeat (first | exact Sb.nil | exact Sb.refl | exact Sb.app0 | apply Sb.keep | apply Sb.keepApp | apply Sb.cons | apply Sb.app))) (rd_pickt rfl rfl) rfl (by kernel_rfl) ?_
    refine xm_take 49 (m' := 1125899906842623) rfl (by kernel_rfl) (by first | exact Sb.refl | exact Sb.nil | (repeat (first | exact Sb.nil | exact Sb.refl | exact Sb.app0 | apply Sb.keep | apply Sb.keepApp | apply Sb.cons | apply Sb.app))) (rd_assign rfl) rfl (by kernel_rfl) ?_
    refine xm_done (by kernel_rfl) ?_
    refine xq_seq ?_
    refine xc_ret ?_
    exact xq_ret1 (.inl rfl) Try.results45 rfl (rfl)
end Go.Proofs.Ytohlaabclifbfaa.X
/-
  RtcpPuts: a walk of my own.
-/
namespace Go.Proofs.Ytohlaabclifbfaa.X
open Go Go.RowKit
set_option linter.unusedVariables false
set_option linter.unusedSimpArgs false
set_option maxHeartbeats 8000000 in
theorem xf_RtcpPuts {W : World} (x : Sn) (hx : x.Rg) (p1 : Option Addr) (c1 : Nat) (hr1 : Rs W [] p1 (x.bl.flatMap Bk.enc)) (hn1 : x.bl.length ≤ 9223372036854775807)
    (p2 : Option Addr) (n c2 : Nat) (xs : List Ck) (hxs : xs.length = n) (hr2 : Rs W [] p2 (xs.flatMap Ck.enc)) (hu2 : ∀ x, x ∈ xs → U4 x.ss) (hn2 : n ≤ 9223372036854775807)
    (z : By') (p3 : Option Addr) (c3 : Nat) (hr3 : Rs W [] p3 (ints .u32 z.so)) (hu3 : ∀ y, y ∈ z.so → U4 y) (hn3 : z.so.length ≤ 9223372036854775807) (hm3 : z.re.size ≤ 9223372036854775807) :
    XF Try.prog W 6 #[.agg (x.enc (.slice p1 x.bl.length c1)).toArray, .slice p2 n c2, .agg (z.enc (.slice p3 z.so.length c3)).toArray] [] (fun v L' => v = .bool true) := by
  refine xf_enter (args := [_, _, _]) Try.func6 rfl Try.ntmps6 rfl ?_
  obtain ⟨fb, hfb⟩ : ∃ b : Bool, fewP xs x.bl.length z.so.length z.re.size = b := ⟨_, rfl⟩
  obtain ⟨⟨q1, e1⟩, hz1⟩ : ∃ w, sndR x = w := ⟨_, rfl⟩
  obtain ⟨⟨q2, e2⟩, hz2⟩ : ∃ w, rcvR x.ss x.bl = w := ⟨_, rfl⟩
  obtain ⟨⟨q3, e3⟩, hz3⟩ : ∃ w, putCh xs = w := ⟨_, rfl⟩
  obtain ⟨⟨q4, e4⟩, hz4⟩ : ∃ w, putBy z = w := ⟨_, rfl⟩
  have g1 : q1.Rg := by have := sndR_rg hx; rwa [hz1] at this
  have g2 : q2.Rg := by have := rcvR_rg hx.ss hx.bl; rwa [hz2] at this
  have g3 : q3.Rg := by have := putCh_rg hu2; rwa [hz3] at this
  have g4 : q4.Rg := by have := putBy_rg hu3; rwa [hz4] at this
  have l1 : q1.bd.length ≤ 24 + 24 * x.bl.length := by have := sndR_len x; rwa [hz1] at this
  have l2 : q2.bd.length ≤ 24 + 24 * x.bl.length := by have := rcvR_len x.ss x.bl; rwa [hz2] at this
  have l3 : q3.bd.length ≤ 300 * xs.length := by have := putCh_len xs; rwa [hz3] at this
  have l4 : q4.bd.length ≤ 4 * z.so.length + z.re.size + 4 := by have := putBy_len z; rwa [hz4] at this
  have hss : ∃ ss nt rt pk oc bl, x = ⟨ss, nt, rt, pk, oc, bl⟩ := ⟨_, _, _, _, _, _, rfl⟩
  have hzz : ∃ so re, z = ⟨so, re⟩ := ⟨_, _, rfl⟩
  by_cases hf0 : ¬ fb = true
  · skip
    have : fb = false := by simpa using hf0
    subst this
    focus
      refine xc_seq ?_
      refine xc_region ?_
      refine xo_ef rfl (ef_box rfl fun r3 => ?_)
      refine xo_ef rfl (ef_box rfl fun r5 => ?_)
      refine xo_rd (rd_assign rfl) rfl ?_
      refine xo_nil ?_
      refine xq_seq ?_
      refine xc_seq ?_
      refine xc_seq ?_
      refine xc_region ?_
      refine xo_rd (rd_loadB rfl Kn.o1 (by rfl)) rfl ?_
      refine xo_rd (rd_move rfl) rfl ?_
      refine xo_rd (rd_loadB rfl Kn.o0 (by rfl)) rfl ?_
      refine xo_ef rfl (ef_call rfl (XF.mono (xf_fewP x p1 x.bl.length c1 p2 n c2 xs p3 z.so.length c3 z.re _ hfb hxs (hr2.mono (by intro z hz; simp [hz])) hn2) ?_))
      rintro v L' ⟨rfl, rfl⟩
      refine xo_rd (rd_not rfl) rfl ?_
      refine xo_nil ?_
      refine xq_seq ?_
      refine xc_condt rfl ?_
      refine xc_seq ?_
      refine xc_region ?_
      refine xo_ef rfl (ef_call rfl (XF.mono (xf_any (fun W => xf_works)) ?_))
      rintro v L' ⟨rfl, rfl⟩
      refine xo_rd (rd_assign rfl) rfl ?_
      refine xo_nil ?_
      refine xq_seq ?_
      refine xc_ret ?_
      refine xq_then_ret ?_
      exact xq_ret1 (.inl rfl) Try.results6 rfl (rfl)
  have hft : fb = true := Decidable.not_not.1 hf0
  subst hft
  obtain ⟨f1, f2, f3, f4, f5⟩ := of_decide_eq_true hfb
  focus
    refine xc_seq ?_
    refine xc_region ?_
    refine xo_ef rfl (ef_box rfl fun r3 => ?_)
    refine xo_ef rfl (ef_box rfl fun r5 => ?_)
    refine xo_rd (rd_assign rfl) rfl ?_
    refine xo_nil ?_
    refine xq_seq ?_
    refine xc_seq ?_
    refine xc_seq ?_
    refine xc_region ?_
    refine xo_rd (rd_loadB rfl Kn.o1 (by rfl)) rfl ?_
    refine xo_rd (rd_move rfl) rfl ?_
    refine xo_rd (rd_loadB rfl Kn.o0 (by rfl)) rfl ?_
    refine xo_ef rfl (ef_call rfl (XF.mono (xf_fewP x p1 x.bl.length c1 p2 n c2 xs p3 z.so.length c3 z.re _ hfb hxs (hr2.mono (by intro z hz; simp [hz])) hn2) ?_))
    rintro v L' ⟨rfl, rfl⟩
    refine xo_rd (rd_not rfl) rfl ?_
    refine xo_nil ?_
    refine xq_seq ?_
    refine xc_condf rfl ?_
    refine xc_skip ?_
    refine xq_seq ?_
    refine xc_seq ?_
    refine xc_region ?_
    refine xo_rd (rd_fieldAddr rfl) rfl ?_
    refine xo_rd (rd_load1 rfl (Cl.o1 rfl)) rfl ?_
    refine xo_rd (rd_fieldAddr rfl) rfl ?_
    refine xo_rd (rd_load1 rfl (Cl.o1 rfl)) rfl ?_
    refine xo_rd (rd_build rfl rfl rfl) rfl ?_
    refine xo_ef rfl (ef_alloc fun r7 => ?_)
    refine xo_ef rfl (ef_storeB [] _ rfl rfl (by first | rfl | assumption) rfl rfl rfl ?_)
    refine xo_nil ?_
    refine xq_seq ?_
    refine xc_seq ?_
    refine xc_region ?_
    refine xo_rd (rd_loadB rfl Kn.o2 (by rfl)) rfl ?_
    refine xo_ef rfl (ef_call rfl (XF.mono (xg_sender x hx p1 c1 q1 e1 hz1 hr1.nilL (by omega)) ?_))
    rintro v L' ⟨x1, rfl, hq1, ho1, rfl⟩
    refine xo_seg [_, _, _] x1.l _ ?_
    refine xo_rd (rd_move rfl) rfl ?_
    refine xo_rd (rd_extract rfl rfl) rfl ?_
    refine xo_rd (rd_extract rfl rfl) rfl ?_
    refine xo_ef rfl (ef_alloc fun r8 => ?_)
    refine xo_ef rfl (ef_storeB [] _ rfl rfl (by first | rfl | assumption) rfl rfl rfl ?_)
    refine xo_rd (rd_assign rfl) rfl ?_
    refine xo_nil ?_
    refine xq_seq ?_
    refine xc_seq ?_
    refine xc_region ?_
    refine xo_rd (rd_loadB rfl Kn.o1 (by rfl)) rfl ?_
    refine xo_ef rfl (ef_call rfl (XF.mono (xg_receiver x.ss hx.ss p1 x.bl.length c1 x.bl q2 e2 hz2 rfl hr1.nilL hx.bl (by omega)) ?_))
    rintro v L' ⟨x2, rfl, hq2, ho2, rfl⟩
    refine xo_seg [_, _, _, _] x2.l _ ?_
    refine xo_rd (rd_move rfl) rfl ?_
    refine xo_rd (rd_extract rfl rfl) rfl ?_
    refine xo_rd (rd_extract rfl rfl) rfl ?_
    refine xo_ef rfl (ef_alloc fun r10 => ?_)
    refine xo_ef rfl (ef_storeB [] _ rfl rfl (by first | rfl | assumption) rfl rfl rfl ?_)
    refine xo_rd (rd_assign rfl) rfl ?_
    refine xo_nil ?_
    refine xq_seq ?_
    refine xc_seq ?_
    refine xc_region ?_
    refine xo_rd (rd_move rfl) rfl ?_
    refine xo_ef rfl (ef_call rfl (XF.mono (xg_chunks p2 n c2 xs q3 e3 hz3 hxs hr2.nilL hu2 (by omega)) ?_))
    rintro v L' ⟨x3, rfl, hq3, ho3, rfl⟩
    refine xo_seg [_, _, _, _, _] x3.l _ ?_
    refine xo_rd (rd_move rfl) rfl ?_
    refine xo_rd (rd_extract rfl rfl) rfl ?_
    refine xo_rd (rd_extract rfl rfl) rfl ?_
    refine xo_ef rfl (ef_alloc fun r12 => ?_)
    refine xo_ef rfl (ef_storeB [] _ rfl rfl (by first | rfl | assumption) rfl rfl rfl ?_)
    refine xo_rd (rd_assign rfl) rfl ?_
    refine xo_nil ?_
    refine xq_seq ?_
    refine xc_seq ?_
    refine xc_region ?_
    refine xo_rd (rd_loadB rfl Kn.o4 (by rfl)) rfl ?_
    refine xo_ef rfl (ef_call rfl (XF.mono (xg_bye z p3 c3 q4 e4 hz4 hr3.nilL hu3 hn3 hm3) ?_))
    rintro v L' ⟨x4, rfl, hq4, ho4, rfl⟩
    refine xo_seg [_, _, _, _, _, _] x4.l _ ?_
    refine xo_rd (rd_move rfl) rfl ?_
    refine xo_rd (rd_extract rfl rfl) rfl ?_
    refine xo_rd (rd_extract rfl rfl) rfl ?_
    refine xo_ef rfl (ef_alloc fun r14 => ?_)
    refine xo_ef rfl (ef_storeB [] _ rfl rfl (by first | rfl | assumption) rfl rfl rfl ?_)
    refine xo_rd (rd_assign rfl) rfl ?_
    refine xo_nil ?_
    refine xq_seq ?_
  subst hq1 hq2 hq3 hq4
  obtain ⟨cz, hcz⟩ : ∃ cz, cz = (.agg (z.enc (.slice p3 z.so.length c3)).toArray : Value).cells := ⟨_, rfl⟩
  refine xc_sub (L' := (r14, .cells x4.enc.toArray 35 (0, 0)) :: (r12, .cells x3.enc.toArray 35 (0, 0)) :: (r10, .cells x2.enc.toArray 35 (0, 0)) :: (r8, .cells x1.enc.toArray 35 (0, 0)) :: (r7, .cells #[.int .u32 x.ss, .slice p1 x.bl.length c1] 60 (0, 0)) :: (r5, .cells (z.enc (.slice p3 z.so.length c3)).toArray 57 (0, 0)) :: (r3, .cells (x.enc (.slice p1 x.bl.length c1)).toArray 53 (0, 0)) :: (x4.l ++ (x3.l ++ (x2.l ++ (x1.l ++ []))))) (List.Sublist.refl _) ?_
  have b1 : Rs W (x4.l ++ (x3.l ++ (x2.l ++ (x1.l ++ [])))) x1.p (ints .u8 x1.q.bd) := SlO.rs ho1 (by intro z hz; simp [hz])
  have b2 : Rs W (x4.l ++ (x3.l ++ (x2.l ++ (x1.l ++ [])))) x2.p (ints .u8 x2.q.bd) := SlO.rs ho2 (by intro z hz; simp [hz])
  have b3 : Rs W (x4.l ++ (x3.l ++ (x2.l ++ (x1.l ++ [])))) x3.p (ints .u8 x3.q.bd) := SlO.rs ho3 (by intro z hz; simp [hz])
  have b4 : Rs W (x4.l ++ (x3.l ++ (x2.l ++ (x1.l ++ [])))) x4.p (ints .u8 x4.q.bd) := SlO.rs ho4 (by intro z hz; simp [hz])
  have k1 := ho1.cap.2
  have k2 := ho2.cap.2
  have k3 := ho3.cap.2
  have k4 := ho4.cap.2
  generalize x4.l ++ (x3.l ++ (x2.l ++ (x1.l ++ []))) = G at *
  focus
    refine xc_seq ?_
    refine xc_region ?_
    refine xo_rd (rd_loadB rfl Kn.o6 (by rfl)) rfl ?_
    refine xo_ef rfl (ef_call rfl (XF.mono (xf_dSender x p1 c1 hr1.nilL (by omega)) ?_))
    rintro v L' ⟨s5, k5, l5, rfl, hO5, rfl⟩
    refine xo_seg [_, _, _, _, _, _, _] l5 _ ?_
    refine xo_ef rfl (ef_call rfl (XF.mono (xg_rsender x hx _ _ x1.q e1 hz1 (hO5.rs (by intro z hz; simp [hz])) (by omega)) ?_))
    rintro v L' ⟨y1, rfl, hy1, hp1, rfl⟩
    refine xo_seg [_, _, _, _, _, _, _] y1.l _ ?_
    refine xo_rd (rd_move rfl) rfl ?_
    refine xo_rd (rd_extract rfl rfl) rfl ?_
    refine xo_rd (rd_extract rfl rfl) rfl ?_
    refine xo_ef rfl (ef_alloc fun r16 => ?_)
    refine xo_ef rfl (ef_storeB [] _ rfl rfl (by first | rfl | assumption) rfl rfl rfl ?_)
    refine xo_rd (rd_assign rfl) rfl ?_
    refine xo_nil ?_
    refine xq_seq ?_
    refine xc_seq ?_
    refine xc_region ?_
    refine xo_rd (rd_loadB rfl Kn.o5 (by rfl)) rfl ?_
    refine xo_ef rfl (ef_call rfl (XF.mono (xf_dReceiver x.ss p1 x.bl.length c1 x.bl rfl hr1.nilL (by omega)) ?_))
    rintro v L' ⟨s6, k6, l6, rfl, hO6, rfl⟩
    refine xo_seg [_, _, _, _, _, _, _, _] l6 _ ?_
    refine xo_ef rfl (ef_call rfl (XF.mono (xg_rreceiver x.ss hx.ss _ x.bl.length _ x.bl x2.q e2 hz2 rfl (hO6.rs (by intro z hz; simp [hz])) hx.bl (by omega)) ?_))
    rintro v L' ⟨y2, rfl, hy2, hp2, rfl⟩
    refine xo_seg [_, _, _, _, _, _, _, _] y2.l _ ?_
    refine xo_rd (rd_move rfl) rfl ?_
    refine xo_rd (rd_extract rfl rfl) rfl ?_
    refine xo_rd (rd_extract rfl rfl) rfl ?_
    refine xo_ef rfl (ef_alloc fun r18 => ?_)
    refine xo_ef rfl (ef_storeB [] _ rfl rfl (by first | rfl | assumption) rfl rfl rfl ?_)
    refine xo_rd (rd_assign rfl) rfl ?_
    refine xo_nil ?_
    refine xq_seq ?_
    refine xc_seq ?_
    refine xc_region ?_
    refine xo_rd (rd_move rfl) rfl ?_
    refine xo_ef rfl (ef_call rfl (XF.mono (xf_dChunks p2 n c2 xs hxs hr2.nilL (by omega)) ?_))
    rintro v L' ⟨s7, k7, l7, rfl, hO7, rfl⟩
    refine xo_seg [_, _, _, _, _, _, _, _, _] l7 _ ?_
    refine xo_ef rfl (ef_call rfl (XF.mono (xg_rchunks _ n _ xs x3.q e3 hz3 hxs (hO7.rs (by intro z hz; simp [hz])) hu2 (by omega)) ?_))
    rintro v L' ⟨y3, rfl, hy3, hp3, rfl⟩
    refine xo_seg [_, _, _, _, _, _, _, _, _] y3.l _ ?_
    refine xo_rd (rd_move rfl) rfl ?_
    refine xo_rd (rd_extract rfl rfl) rfl ?_
    refine xo_rd (rd_extract rfl rfl) rfl ?_
    refine xo_ef rfl (ef_alloc fun r20 => ?_)
    refine xo_ef rfl (ef_storeB [] _ rfl rfl (by first | rfl | assumption) rfl rfl rfl ?_)
    refine xo_rd (rd_assign rfl) rfl ?_
    refine xo_nil ?_
    refine xq_seq ?_
    refine xc_seq ?_
    refine xc_region ?_
    refine xo_rd (rd_loadB rfl Kn.o8 (by rfl)) rfl ?_
    refine xo_ef rfl (ef_call rfl (XF.mono (xf_dBye z p3 c3 hr3.nilL (by omega)) ?_))
    rintro v L' ⟨s8, k8, l8, rfl, hO8, rfl⟩
    refine xo_seg [_, _, _, _, _, _, _, _, _, _] l8 _ ?_
    refine xo_ef rfl (ef_call rfl (XF.mono (xg_rbye z _ _ x4.q e4 hz4 (hO8.rs (by intro z hz; simp [hz])) hu3 hn3 hm3) ?_))
    rintro v L' ⟨y4, rfl, hy4, hp4, rfl⟩
    refine xo_seg [_, _, _, _, _, _, _, _, _, _] y4.l _ ?_
    refine xo_rd (rd_move rfl) rfl ?_
    refine xo_rd (rd_extract rfl rfl) rfl ?_
    refine xo_rd (rd_extract rfl rfl) rfl ?_
    refine xo_ef rfl (ef_alloc fun r22 => ?_)
    refine xo_ef rfl (ef_storeB [] _ rfl rfl (by first | rfl | assumption) rfl rfl rfl ?_)
    refine xo_rd (rd_assign rfl) rfl ?_
    refine xo_nil ?_
    refine xq_seq ?_
    refine xc_seq ?_
    refine xc_seq ?_
    refine xc_region ?_
    refine xo_rd (rd_loadB rfl Kn.o7 (by rfl)) rfl ?_
    refine xo_rd (rd_move rfl) rfl ?_
    refine xo_rd (rd_loadB rfl Kn.o3 (by rfl)) rfl ?_
    refine xo_rd (rd_move rfl) rfl ?_
    refine xo_ef rfl (ef_call rfl (XF.mono (xf_is x1 y1 e1 hy1.symm (b1.mono (by intro z hz; simp [hz])) (SlO.rs hp1 (by intro z hz; simp [hz])) g1 (by omega)) ?_))
    rintro v L' ⟨rfl, rfl⟩
    refine xo_rd (rd_not rfl) rfl ?_
    refine xo_rd (rd_move rfl) rfl ?_
    refine xo_grd rfl rfl (rd_loadB rfl Kn.o6 (by rfl)) rfl ?_
    refine xo_grd rfl rfl (rd_move rfl) rfl ?_
    refine xo_grd rfl rfl (rd_loadB rfl Kn.o2 (by rfl)) rfl ?_
    refine xo_grd rfl rfl (rd_move rfl) rfl ?_
    refine xo_gef rfl rfl rfl (ef_call rfl (XF.mono (xf_is x2 y2 e2 hy2.symm (b2.mono (by intro z hz; simp [hz])) (SlO.rs hp2 (by intro z hz; simp [hz])) g2 (by omega)) ?_))
    rintro v L' ⟨rfl, rfl⟩
    refine xo_grd rfl rfl (rd_not rfl) rfl ?_
    refine xo_rd (rd_pickf rfl rfl) rfl ?_
    refine xo_rd (rd_move rfl) rfl ?_
    refine xo_grd rfl rfl (rd_loadB rfl Kn.o5 (by rfl)) rfl ?_
    refine xo_grd rfl rfl (rd_move rfl) rfl ?_
    refine xo_grd rfl rfl (rd_loadB rfl Kn.o1 (by rfl)) rfl ?_
    refine xo_grd rfl rfl (rd_move rfl) rfl ?_
    refine xo_gef rfl rfl rfl (ef_call rfl (XF.mono (xf_is x3 y3 e3 hy3.symm (b3.mono (by intro z hz; simp [hz])) (SlO.rs hp3 (by intro z hz; simp [hz])) g3 (by omega)) ?_))
    rintro v L' ⟨rfl, rfl⟩
    refine xo_grd rfl rfl (rd_not rfl) rfl ?_
    refine xo_rd (rd_pickf rfl rfl) rfl ?_
    refine xo_rd (rd_move rfl) rfl ?_
    refine xo_grd rfl rfl (rd_loadB rfl Kn.o4 (by rfl)) rfl ?_
    refine xo_grd rfl rfl (rd_move rfl) rfl ?_
    refine xo_grd rfl rfl (rd_loadB rfl Kn.o0 (by rfl)) rfl ?_
    refine xo_grd rfl rfl (rd_move rfl) rfl ?_
    refine xo_gef rfl rfl rfl (ef_call rfl (XF.mono (xf_is x4 y4 e4 hy4.symm (b4.mono (by intro z hz; simp [hz])) (SlO.rs hp4 (by intro z hz; simp [hz])) g4 (by omega)) ?_))
    rintro v L' ⟨rfl, rfl⟩
    refine xo_grd rfl rfl (rd_not rfl) rfl ?_
    refine xo_rd (rd_pickf rfl rfl) rfl ?_
    refine xo_nil ?_
    refine xq_seq ?_
    refine xc_condf rfl ?_
    refine xc_skip ?_
    refine xq_seq ?_
  have hcc : ∀ (a b c d : Blk) (A R : List Blk), (A ++ G).Sublist (a :: b :: c :: d :: (A ++ (R ++ G))) := fun a b c d A R => .cons _ (.cons _ (.cons _ (.cons _ (List.Sublist.append_left (List.sublist_append_right R G) A))))
  refine xc_sub (L' := (r14, .cells x4.enc.toArray 35 (0, 0)) :: (r12, .cells x3.enc.toArray 35 (0, 0)) :: (r10, .cells x2.enc.toArray 35 (0, 0)) :: (r8, .cells x1.enc.toArray 35 (0, 0)) :: (r7, .cells #[.int .u32 x.ss, .slice p1 x.bl.length c1] 60 (0, 0)) :: (r5, .cells (z.enc (.slice p3 z.so.length c3)).toArray 57 (0, 0)) :: (r3, .cells (x.enc (.slice p1 x.bl.length c1)).toArray 53 (0, 0)) :: G) (.cons _ (.cons _ (.cons _ (.cons _ (.cons_cons _ (.cons_cons _ (.cons_cons _ (.cons_cons _ (.cons_cons _ (.cons_cons _ (.cons_cons _ (by repeat (first | exact List.Sublist.refl _ | refine List.Sublist.trans ?_ (List.sublist_append_right _ _)))))))))))))) ?_
  refine xc_join (ι := Unit) (fun _ => True) (fun _ => (r14, .cells x4.enc.toArray 35 (0, 0)) :: (r12, .cells x3.enc.toArray 35 (0, 0)) :: (r10, .cells x2.enc.toArray 35 (0, 0)) :: (r8, .cells x1.enc.toArray 35 (0, 0)) :: (r7, .cells #[.int .u32 x.ss, .slice p1 x.bl.length c1] 60 (0, 0)) :: (r5, .cells (z.enc (.slice p3 z.so.length c3)).toArray 57 (0, 0)) :: (r3, .cells (x.enc (.slice p1 x.bl.length c1)).toArray 53 (0, 0)) :: G) (fun _ => [(1, .slice p2 n c2), (3, .pointer (some ⟨r3, 0, none⟩)), (5, .pointer (some ⟨r5, 0, none⟩)), (7, .pointer (some ⟨r7, 0, none⟩)), (8, .pointer (some ⟨r8, 0, none⟩)), (10, .pointer (some ⟨r10, 0, none⟩)), (12, .pointer (some ⟨r12, 0, none⟩)), (13, .int .i64 e3), (14, .pointer (some ⟨r14, 0, none⟩)), (15, .int .i64 e4)]) ?_ ?_
  · by_cases h0 : e1 = 0
    · subst h0
      obtain ⟨of1, R1, _⟩ := ofSn_put hx hz1
      have he2 : e2 = 0 := by
        unfold sndR at hz1
        unfold rcvR at hz2
        split at hz1
        · rename_i hb
          rw [if_pos hb] at hz2
          simp only [Prod.mk.injEq] at hz2
          exact hz2.2.symm
        · simp at hz1
      subst he2
      obtain ⟨of2, R2, _⟩ := ofRc_put hx.ss hx.bl hz2
      focus
        refine xc_seq ?_
        refine xc_region ?_
        refine xo_rd (rd_move rfl) rfl ?_
        refine xo_rd (rd_eql rfl rfl) rfl ?_
        refine xo_nil ?_
        refine xq_seq ?_
        refine xc_condt rfl ?_
        refine xc_seq ?_
        refine xc_region ?_
        refine xo_rd (rd_loadB rfl Kn.o3 (by rfl)) rfl ?_
        refine xo_ef rfl (ef_call rfl (XF.mono (xg_ofSender x1 x of1 (b1.mono (by intro z hz; simp [hz])) g1 k1 (by omega)) ?_))
        rintro v L' ⟨s9, k9, l9, rfl, hO9, rfl⟩
        refine xo_seg [_, _, _, _, _, _, _] l9 _ ?_
        refine xo_rd (rd_move rfl) rfl ?_
        refine xo_rd (rd_extract rfl rfl) rfl ?_
        refine xo_rd (rd_extract rfl rfl) rfl ?_
        refine xo_ef rfl (ef_alloc fun r24 => ?_)
        refine xo_ef rfl (ef_storeB [] _ rfl rfl (by first | rfl | assumption) rfl rfl rfl ?_)
        refine xo_rd (rd_assign rfl) rfl ?_
        refine xo_nil ?_
        refine xq_seq ?_
        refine xc_seq ?_
        refine xc_region ?_
        refine xo_rd (rd_loadB rfl Kn.o3 (by rfl)) rfl ?_
        refine xo_ef rfl (ef_call rfl (XF.mono (xg_ofReceiver x2 x.ss x.bl of2 (b2.mono (by intro z hz; simp [hz])) g2 k2 (by omega)) ?_))
        rintro v L' ⟨s10, k10, l10, rfl, hO10, rfl⟩
        refine xo_seg [_, _, _, _, _, _, _, _] l10 _ ?_
        refine xo_rd (rd_move rfl) rfl ?_
        refine xo_rd (rd_extract rfl rfl) rfl ?_
        refine xo_rd (rd_extract rfl rfl) rfl ?_
        refine xo_ef rfl (ef_alloc fun r26 => ?_)
        refine xo_ef rfl (ef_storeB [] _ rfl rfl (by first | rfl | assumption) rfl rfl rfl ?_)
        refine xo_rd (rd_assign rfl) rfl ?_
        refine xo_nil ?_
        refine xq_seq ?_
      focus
        refine xc_seq ?_
        refine xc_drawM [0, 1, 2, 6, 8, 24, 40, 72, 160, 256, 768, 1280, 2304, 4096, 12288, 20480, 36864, 65536, 196608, 65536, 851968, 1376256, 2162688, 4259840, 10485760, 16777216, 50331648, 16777216, 218103808, 352321536, 553648128, 1090519040] [0, 1, 2, 6, 8, 24, 40, 72, 160, 256, 768, 1280, 2304, 4096, 12288, 20480, 36864, 65536, 196608, 65536, 851968, 1376256, 2162688, 4259840, 10485760, 16777216, 50331648, 16777216, 218103808, 352321536, 553648128, 1090519040] ([(r26, .cells #[.int .u32 x.ss, .slice s10 x.bl.length k10] 60 (0, 0)), (r24, .cells (x.enc (.slice s9 x.bl.length k9)).toArray 53 (0, 0)), (r14, .cells x4.enc.toArray 35 (0, 0)), (r12, .cells x3.enc.toArray 35 (0, 0)), (r10, .cells x2.enc.toArray 35 (0, 0)), (r8, .cells x1.enc.toArray 35 (0, 0)), (r7, .cells #[.int .u32 x.ss, .slice p1 x.bl.length c1] 60 (0, 0)), (r5, .cells (z.enc (.slice p3 z.so.length c3)).toArray 57 (0, 0)), (r3, .cells (x.enc (.slice p1 x.bl.length c1)).toArray 53 (0, 0))]) (by kernel_rfl) (by kernel_rfl) (by kernel_rfl) ?_
        refine xm_take 0 (m' := 1) rfl (by kernel_rfl) (by first | exact Sb.refl | exact Sb.nil | (repeat (first | exact Sb.nil | exact Sb.refl | exact Sb.app0 | apply Sb.keep | apply Sb.keepApp | apply Sb.cons | apply Sb.app))) (rd_loadB rfl Kn.o5 (by rfl)) rfl (by kernel_rfl) ?_
        refine xm_one 1 (m' := 3) rfl (by kernel_rfl) rfl (by kernel_rfl) (ef_call rfl (XF.mono (xf_rightP x1 true (decide_eq_true R1) g1 (by omega)) ?_))
        rintro v L' ⟨rfl, rfl⟩
        refine ⟨(by first | exact Sb.refl | exact Sb.nil | (repeat (first | exact Sb.nil | exact Sb.refl | exact Sb.app0 | apply Sb.keep | apply Sb.keepApp | apply Sb.cons | apply Sb.app))), ?_⟩
        refine xm_take 2 (m' := 7) rfl (by kernel_rfl) (by first | exact Sb.refl | exact Sb.nil | (repeat (first | exact Sb.nil | exact Sb.refl | exact Sb.app0 | apply Sb.keep | apply Sb.keepApp | apply Sb.cons | apply Sb.app))) (rd_not rfl) rfl (by kernel_rfl) ?_
        refine xm_take 3 (m' := 15) rfl (by kernel_rfl) (by first | exact Sb.refl | exact Sb.nil | (repeat (first | exact Sb.nil | exact Sb.refl | exact Sb.app0 | apply Sb.keep | apply Sb.keepApp | apply Sb.cons | apply Sb.app))) (rd_move rfl) rfl (by kernel_rfl) ?_
        refine xm_gtake 4 (m' := 31) rfl (by kernel_rfl) (by first | exact Sb.refl | exact Sb.nil | (repeat (first | exact Sb.nil | exact Sb.refl | exact Sb.app0 | apply Sb.keep | apply Sb.keepApp | apply Sb.cons | apply Sb.app))) rfl rfl (rd_loadB rfl Kn.o4 (by rfl)) rfl (by kernel_rfl) ?_
        refine xm_gone 5 (m' := 63) rfl (by kernel_rfl) rfl rfl rfl (by kernel_rfl) (ef_call rfl (XF.mono (xf_rightP x2 true (decide_eq_true R2) g2 (by omega)) ?_))
        rintro v L' ⟨rfl, rfl⟩
        refine ⟨(by first | exact Sb.refl | exact Sb.nil | (repeat (first | exact Sb.nil | exact Sb.refl | exact Sb.app0 | apply Sb.keep | apply Sb.keepApp | apply Sb.cons | apply Sb.app))), ?_⟩
        refine xm_gtake 6 (m' := 127) rfl (by kernel_rfl) (by first | exact Sb.refl | exact Sb.nil | (repeat (first | exact Sb.nil | exact Sb.refl | exact Sb.app0 | apply Sb.keep | apply Sb.keepApp | apply Sb.cons | apply Sb.app))) rfl rfl (rd_not rfl) rfl (by kernel_rfl) ?_
        refine xm_take 7 (m' := 255) rfl (by kernel_rfl) (by first | exact Sb.refl | exact Sb.nil | (repeat (first | exact Sb.nil | exact Sb.refl | exact Sb.app0 | apply Sb.keep | apply Sb.keepApp | apply Sb.cons | apply Sb.app))) (rd_pickf rfl rfl) rfl (by kernel_rfl) ?_
        refine xm_take 8 (m' := 511) rfl (by kernel_rfl) (by first | exact Sb.refl | exact Sb.nil | (repeat (first | exact Sb.nil | exact Sb.refl | exact Sb.app0 | apply Sb.keep | apply Sb.keepApp | apply Sb.cons | apply Sb.app))) (rd_move rfl) rfl (by kernel_rfl) ?_
        refine xm_gtake 9 (m' := 1023) rfl (by kernel_rfl) (by first | exact Sb.refl | exact Sb.nil | (repeat (first | exact Sb.nil | exact Sb.refl | exact Sb.app0 | apply Sb.keep | apply Sb.keepApp | apply Sb.cons | apply Sb.app))) rfl rfl (rd_move rfl) rfl (by kernel_rfl) ?_
        refine xm_gtake 10 (m' := 2047) rfl (by kernel_rfl) (by first | exact Sb.refl | exact Sb.nil | (repeat (first | exact Sb.nil | exact Sb.refl | exact Sb.app0 | apply Sb.keep | apply Sb.keepApp | apply Sb.cons | apply Sb.app))) rfl rfl (rd_neq rfl rfl) rfl (by kernel_rfl) ?_
        refine xm_take 11 (m' := 4095) rfl (by kernel_rfl) (by first | exact Sb.refl | exact Sb.nil | (repeat (first | exact Sb.nil | exact Sb.refl | exact Sb.app0 | apply Sb.keep | apply Sb.keepApp | apply Sb.cons | apply Sb.app))) (rd_pickf rfl rfl) rfl (by kernel_rfl) ?_
        refine xm_take 12 (m' := 8191) rfl (by kernel_rfl) (by first | exact Sb.refl | exact Sb.nil | (repeat (first | exact Sb.nil | exact Sb.refl | exact Sb.app0 | apply Sb.keep | apply Sb.keepApp | apply Sb.cons | apply Sb.app))) (rd_move rfl) rfl (by kernel_rfl) ?_
        refine xm_gtake 13 (m' := 16383) rfl (by kernel_rfl) (by first | exact Sb.refl | exact Sb.nil | (repeat (first | exact Sb.nil | exact Sb.refl | exact Sb.app0 | apply Sb.keep | apply Sb.keepApp | apply Sb.cons | apply Sb.app))) rfl rfl (rd_move rfl) rfl (by kernel_rfl) ?_
        refine xm_gtake 14 (m' := 32767) rfl (by kernel_rfl) (by first | exact Sb.refl | exact Sb.nil | (repeat (first | exact Sb.nil | exact Sb.refl | exact Sb.app0 | apply Sb.keep | apply Sb.keepApp | apply Sb.cons | apply Sb.app))) rfl rfl (rd_neq rfl rfl) rfl (by kernel_rfl) ?_
        refine xm_take 15 (m' := 65535) rfl (by kernel_rfl) (by first | exact Sb.refl | exact Sb.nil | (repeat (first | exact Sb.nil | exact Sb.refl | exact Sb.app0 | apply Sb.keep | apply Sb.keepApp | apply Sb.cons | apply Sb.app))) (rd_pickf rfl rfl) rfl (by kernel_rfl) ?_
        refine xm_take 16 (m' := 131071) rfl (by kernel_rfl) (by first | exact Sb.refl | exact Sb.nil | (repeat (first | exact Sb.nil | exact Sb.refl | exact Sb.app0 | apply Sb.keep | apply Sb.keepApp | apply Sb.cons | apply Sb.app))) (rd_move rfl) rfl (by kernel_rfl) ?_
        refine xm_gtake 17 (m' := 262143) rfl (by kernel_rfl) (by first | exact Sb.refl | exact Sb.nil | (repeat (first | exact Sb.nil | exact Sb.refl | exact Sb.app0 | apply Sb.keep | apply Sb.keepApp | apply Sb.cons | apply Sb.app))) rfl rfl (rd_loadB rfl Kn.o1 (by rfl)) rfl (by kernel_rfl) ?_
        refine xm_gtake 19 (m' := 786431) rfl (by kernel_rfl) (by first | exact Sb.refl | exact Sb.nil | (repeat (first | exact Sb.nil | exact Sb.refl | exact Sb.app0 | apply Sb.keep | apply Sb.keepApp | apply Sb.cons | apply Sb.app))) rfl rfl (rd_loadB rfl Kn.o8 (by rfl)) rfl (by kernel_rfl) ?_
        refine xm_gone 18 (m' := 1048575) rfl (by kernel_rfl) rfl rfl rfl (by kernel_rfl) (ef_call rfl (XF.mono (xf_dSender x s9 k9 (hO9.rs (by intro z hz; simp [hz])) (by omega)) ?_))
        rintro v L' ⟨s11, k11, l11, rfl, hO11, rfl⟩
        refine xmx_seg [_, _, _, _, _, _, _, _, _] l11 _ ?_
        refine ⟨(by first | exact Sb.refl | exact Sb.nil | (repeat (first | exact Sb.nil | exact Sb.refl | exact Sb.app0 | apply Sb.keep | apply Sb.keepApp | apply Sb.cons | apply Sb.app))), ?_⟩
        refine xm_gone 20 (m' := 2097151) rfl (by kernel_rfl) rfl rfl rfl (by kernel_rfl) (ef_call rfl (XF.mono (xf_dSender x p1 c1 hr1.nilL (by omega)) ?_))
        rintro v L' ⟨s12, k12, l12, rfl, hO12, rfl⟩
        refine xmx_seg [_, _, _, _, _, _, _, _, _] l12 _ ?_
        refine ⟨(by first | exact Sb.refl | exact Sb.nil | (repeat (first | exact Sb.nil | exact Sb.refl | exact Sb.app0 | apply Sb.keep | apply Sb.keepApp | apply Sb.cons | apply Sb.app))), ?_⟩
        refine xm_gone 21 (m' := 4194303) rfl (by kernel_rfl) rfl rfl rfl (by kernel_rfl) (ef_call rfl (XF.mono (xf_sameSender x _ _ _ _ (hO11.rs (by intro z hz; simp [hz])) (hO12.rs (by intro z hz; simp [hz])) (by omega)) ?_))
        rintro v L' ⟨rfl, rfl⟩
        refine ⟨(by first | exact Sb.refl | exact Sb.nil | (repeat (first | exact Sb.nil | exact Sb.refl | exact Sb.app0 | apply Sb.keep | apply Sb.keepApp | apply Sb.cons | apply Sb.app))), ?_⟩
        refine xm_gtake 22 (m' := 8388607) rfl (by kernel_rfl) (by first | exact Sb.refl | exact Sb.nil | (repeat (first | exact Sb.nil | exact Sb.refl | exact Sb.app0 | apply Sb.keep | apply Sb.keepApp | apply Sb.cons | apply Sb.app))) rfl rfl (rd_not rfl) rfl (by kernel_rfl) ?_
        refine xm_take 23 (m' := 16777215) rfl (by kernel_rfl) (by first | exact Sb.refl | exact Sb.nil | (repeat (first | exact Sb.nil | exact Sb.refl | exact Sb.app0 | apply Sb.keep | apply Sb.keepApp | apply Sb.cons | apply Sb.app))) (rd_pickf rfl rfl) rfl (by kernel_rfl) ?_
        refine xm_take 24 (m' := 33554431) rfl (by kernel_rfl) (by first | exact Sb.refl | exact Sb.nil | (repeat (first | exact Sb.nil | exact Sb.refl | exact Sb.app0 | apply Sb.keep | apply Sb.keepApp | apply Sb.cons | apply Sb.app))) (rd_move rfl) rfl (by kernel_rfl) ?_
        refine xm_gtake 25 (m' := 67108863) rfl (by kernel_rfl) (by first | exact Sb.refl | exact Sb.nil | (repeat (first | exact Sb.nil | exact Sb.refl | exact Sb.app0 | apply Sb.keep | apply Sb.keepApp | apply Sb.cons | apply Sb.app))) rfl rfl (rd_loadB rfl Kn.o0 (by rfl)) rfl (by kernel_rfl) ?_
        refine xm_gtake 27 (m' := 201326591) rfl (by kernel_rfl) (by first | exact Sb.refl | exact Sb.nil | (repeat (first | exact Sb.nil | exact Sb.refl | exact Sb.app0 | apply Sb.keep | apply Sb.keepApp | apply Sb.cons | apply Sb.app))) rfl rfl (rd_loadB rfl Kn.o6 (by rfl)) rfl (by kernel_rfl) ?_
        refine xm_gone 26 (m' := 268435455) rfl (by kernel_rfl) rfl rfl rfl (by kernel_rfl) (ef_call rfl (XF.mono (xf_dReceiver x.ss s10 x.bl.length k10 x.bl rfl (hO10.rs (by intro z hz; simp [hz])) (by omega)) ?_))
        rintro v L' ⟨s13, k13, l13, rfl, hO13, rfl⟩
        refine xmx_seg [_, _, _, _, _, _, _, _, _] l13 _ ?_
        refine ⟨(by first | exact Sb.refl | exact Sb.nil | (repeat (first | exact Sb.nil | exact Sb.refl | exact Sb.app0 | apply Sb.keep | apply Sb.keepApp | apply Sb.cons | apply Sb.app))), ?_⟩
        refine xm_gone 28 (m' := 536870911) rfl (by kernel_rfl) rfl rfl rfl (by kernel_rfl) (ef_call rfl (XF.mono (xf_dReceiver x.ss p1 x.bl.length c1 x.bl rfl hr1.nilL (by omega)) ?_))
        rintro v L' ⟨s14, k14, l14, rfl, hO14, rfl⟩
        refine xmx_seg [_, _, _, _, _, _, _, _, _] l14 _ ?_
        refine ⟨(by first | exact Sb.refl | exact Sb.nil | (repeat (first | exact Sb.nil | exact Sb.refl | exact Sb.app0 | apply Sb.keep | apply Sb.keepApp | apply Sb.cons | apply Sb.app))), ?_⟩
        refine xm_gone 29 (m' := 1073741823) rfl (by kernel_rfl) rfl rfl rfl (by kernel_rfl) (ef_call rfl (XF.mono (xf_sameReceiver x.ss _ _ _ _ _ x.bl rfl (hO13.rs (by intro z hz; simp [hz])) (hO14.rs (by intro z hz; simp [hz])) (by omega)) ?_))
        rintro v L' ⟨rfl, rfl⟩
        refine ⟨(by first | exact Sb.refl | exact Sb.nil | (repeat (first | exact Sb.nil | exact Sb.refl | exact Sb.app0 | apply Sb.keep | apply Sb.keepApp | apply Sb.cons | apply Sb.app))), ?_⟩
        refine xm_gtake 30 (m' := 2147483647) rfl (by kernel_rfl) (by first | exact Sb.refl | exact Sb.nil | (repeat (first | exact Sb.nil | exact Sb.refl | exact Sb.app0 | apply Sb.keep | apply Sb.keepApp | apply Sb.cons | apply Sb.app))) rfl rfl (rd_not rfl) rfl (by kernel_rfl) ?_
        refine xm_take 31 (m' := 4294967295) rfl (by kernel_rfl) (by first | exact Sb.refl | exact Sb.nil | (repeat (first | exact Sb.nil | exact Sb.refl | exact Sb.app0 | apply Sb.keep | apply Sb.keepApp | apply Sb.cons | apply Sb.app))) (rd_pickf rfl rfl) rfl (by kernel_rfl) ?_
        refine xm_done (by kernel_rfl) ?_
        refine xq_seq ?_
        refine xc_condf rfl ?_
        refine xc_skip ?_
      exact xq_sub (.cons _ (.cons _ (.cons_cons _ (.cons_cons _ (.cons_cons _ (.cons_cons _ (.cons_cons _ (.cons_cons _ (.cons_cons _ ((by repeat (first | exact List.Sublist.refl _ | refine List.Sublist.trans ?_ (List.sublist_append_right _ _))))))))))))) (xq_joined () trivial rfl (by repeat (first | exact keep_nil | refine keep_cons rfl ?_)))
    · focus
        refine xc_seq ?_
        refine xc_region ?_
        refine xo_rd (rd_move rfl) rfl ?_
        refine xo_rd (rd_eql rfl rfl) rfl ?_
        refine xo_nil ?_
        refine xq_seq ?_
        refine xc_dec rfl (fun hq1 => (by exfalso; omega)) (fun hq1 => ?_)
        refine xc_skip ?_
      exact xq_joined () trivial rfl (by repeat (first | exact keep_nil | refine keep_cons rfl ?_))
  · rintro _ _
    refine xc_join (ι := Unit) (fun _ => True) (fun _ => (r14, .cells x4.enc.toArray 35 (0, 0)) :: (r12, .cells x3.enc.toArray 35 (0, 0)) :: (r10, .cells x2.enc.toArray 35 (0, 0)) :: (r8, .cells x1.enc.toArray 35 (0, 0)) :: (r7, .cells #[.int .u32 x.ss, .slice p1 x.bl.length c1] 60 (0, 0)) :: (r5, .cells (z.enc (.slice p3 z.so.length c3)).toArray 57 (0, 0)) :: (r3, .cells (x.enc (.slice p1 x.bl.length c1)).toArray 53 (0, 0)) :: G) (fun _ => [(1, .slice p2 n c2), (5, .pointer (some ⟨r5, 0, none⟩)), (12, .pointer (some ⟨r12, 0, none⟩)), (13, .int .i64 e3), (14, .pointer (some ⟨r14, 0, none⟩)), (15, .int .i64 e4)]) ?_ ?_
    · by_cases h0 : e3 = 0
      · subst h0
        obtain ⟨of3, R3, _⟩ := ofCh_put hu2 hz3
        subst hxs
        focus
          refine xc_seq ?_
          refine xc_region ?_
          refine xo_rd (rd_move rfl) rfl ?_
          refine xo_rd (rd_eql rfl rfl) rfl ?_
          refine xo_nil ?_
          refine xq_seq ?_
          refine xc_condt rfl ?_
          refine xc_seq ?_
          refine xc_region ?_
          refine xo_rd (rd_loadB rfl Kn.o1 (by rfl)) rfl ?_
          refine xo_ef rfl (ef_call rfl (XF.mono (xg_ofChunks x3 xs of3 (b3.mono (by intro z hz; simp [hz])) g3 k3 (by omega)) ?_))
          rintro v L' ⟨s9, k9, l9, rfl, hO9, rfl⟩
          refine xo_seg [_, _, _, _, _, _, _] l9 _ ?_
          refine xo_rd (rd_move rfl) rfl ?_
          refine xo_rd (rd_extract rfl rfl) rfl ?_
          refine xo_rd (rd_extract rfl rfl) rfl ?_
          refine xo_rd (rd_assign rfl) rfl ?_
          refine xo_rd (rd_assign rfl) rfl ?_
          refine xo_nil ?_
          refine xq_seq ?_
          refine xc_seq ?_
          refine xc_region ?_
          refine xo_rd (rd_loadB rfl Kn.o1 (by rfl)) rfl ?_
          refine xo_ef rfl (ef_call rfl (XF.mono (xf_rightP x3 true (decide_eq_true R3) g3 (by omega)) ?_))
          rintro v L' ⟨rfl, rfl⟩
          refine xo_rd (rd_not rfl) rfl ?_
          refine xo_rd (rd_move rfl) rfl ?_
          refine xo_grd rfl rfl (rd_move rfl) rfl ?_
          refine xo_grd rfl rfl (rd_neq rfl rfl) rfl ?_
          refine xo_rd (rd_pickf rfl rfl) rfl ?_
          refine xo_rd (rd_move rfl) rfl ?_
          refine xo_grd rfl rfl (rd_move rfl) rfl ?_
          refine xo_grd rfl rfl (rd_move rfl) rfl ?_
          refine xo_gef rfl rfl rfl (ef_call rfl (XF.mono (xf_dChunks p2 xs.length c2 xs rfl hr2.nilL (by omega)) ?_))
          rintro v L' ⟨s10, k10, l10, rfl, hO10, rfl⟩
          refine xo_seg [_, _, _, _, _, _, _] l10 _ ?_
          refine xo_gef rfl rfl rfl (ef_call rfl (XF.mono (xf_sameChunks _ _ xs.length _ _ xs rfl (hO9.rs (by intro z hz; simp [hz])) (hO10.rs (by intro z hz; simp [hz])) (by omega)) ?_))
          rintro v L' ⟨rfl, rfl⟩
          refine xo_grd rfl rfl (rd_not rfl) rfl ?_
          refine xo_rd (rd_pickf rfl rfl) rfl ?_
          refine xo_nil ?_
          refine xq_seq ?_
          refine xc_condf rfl ?_
          refine xc_skip ?_
        exact xq_sub (.cons_cons _ (.cons_cons _ (.cons_cons _ (.cons_cons _ (.cons_cons _ (.cons_cons _ (.cons_cons _ ((by repeat (first | exact List.Sublist.refl _ | refine List.Sublist.trans ?_ (List.sublist_append_right _ _))))))))))) (xq_joined () trivial rfl (by repeat (first | exact keep_nil | refine keep_cons rfl ?_)))
      · focus
          refine xc_seq ?_
          refine xc_region ?_
          refine xo_rd (rd_move rfl) rfl ?_
          refine xo_rd (rd_eql rfl rfl) rfl ?_
          refine xo_nil ?_
          refine xq_seq ?_
          refine xc_dec rfl (fun hq1 => (by exfalso; omega)) (fun hq1 => ?_)
          refine xc_skip ?_
        exact xq_joined () trivial rfl (by repeat (first | exact keep_nil | refine keep_cons rfl ?_))
    · rintro _ _
      refine xc_join (ι := Unit) (fun _ => True) (fun _ => []) (fun _ => []) ?_ ?_
      · by_cases h0 : e4 = 0
        · subst h0
          obtain ⟨of4, R4, _⟩ := ofBy_put hu3 hz4
          focus
            refine xc_seq ?_
            refine xc_region ?_
            refine xo_rd (rd_move rfl) rfl ?_
            refine xo_rd (rd_eql rfl rfl) rfl ?_
            refine xo_nil ?_
            refine xq_seq ?_
            refine xc_condt rfl ?_
            refine xc_seq ?_
            refine xc_region ?_
            refine xo_rd (rd_loadB rfl Kn.o0 (by rfl)) rfl ?_
            refine xo_ef rfl (ef_call rfl (XF.mono (xg_ofBye x4 z of4 (b4.mono (by intro z hz; simp [hz])) g4 k4 (by omega)) ?_))
            rintro v L' ⟨s9, k9, l9, rfl, hO9, rfl⟩
            refine xo_seg [_, _, _, _, _, _, _] l9 _ ?_
            refine xo_rd (rd_move rfl) rfl ?_
            refine xo_rd (rd_extract rfl rfl) rfl ?_
            refine xo_rd (rd_extract rfl rfl) rfl ?_
            refine xo_ef rfl (ef_alloc fun r30 => ?_)
            refine xo_ef rfl (ef_storeB [] _ rfl rfl (by first | rfl | assumption) rfl rfl rfl ?_)
            refine xo_rd (rd_assign rfl) rfl ?_
            refine xo_nil ?_
            refine xq_seq ?_
          focus
            refine xc_seq ?_
            refine xc_drawM [0, 1, 2, 6, 8, 24, 40, 72, 128, 128, 640, 1408, 2176, 4224] [0, 1, 2, 6, 8, 24, 40, 72, 128, 128, 640, 1408, 2176, 4224] ([(r30, .cells (z.enc (.slice s9 z.so.length k9)).toArray 57 (0, 0)), (r14, .cells x4.enc.toArray 35 (0, 0)), (r12, .cells x3.enc.toArray 35 (0, 0)), (r10, .cells x2.enc.toArray 35 (0, 0)), (r8, .cells x1.enc.toArray 35 (0, 0)), (r7, .cells #[.int .u32 x.ss, .slice p1 x.bl.length c1] 60 (0, 0)), (r5, .cells (z.enc (.slice p3 z.so.length c3)).toArray 57 (0, 0)), (r3, .cells (x.enc (.slice p1 x.bl.length c1)).toArray 53 (0, 0))]) (by kernel_rfl) (by kernel_rfl) (by kernel_rfl) ?_
            refine xm_take 0 (m' := 1) rfl (by kernel_rfl) (by first | exact Sb.refl | exact Sb.nil | (repeat (first | exact Sb.nil | exact Sb.refl | exact Sb.app0 | apply Sb.keep | apply Sb.keepApp | apply Sb.cons | apply Sb.app))) (rd_loadB rfl Kn.o1 (by rfl)) rfl (by kernel_rfl) ?_
            refine xm_one 1 (m' := 3) rfl (by kernel_rfl) rfl (by kernel_rfl) (ef_call rfl (XF.mono (xf_rightP x4 true (decide_eq_true R4) g4 (by omega)) ?_))
            rintro v L' ⟨rfl, rfl⟩
            refine ⟨(by first | exact Sb.refl | exact Sb.nil | (repeat (first | exact Sb.nil | exact Sb.refl | exact Sb.app0 | apply Sb.keep | apply Sb.keepApp | apply Sb.cons | apply Sb.app))), ?_⟩
            refine xm_take 2 (m' := 7) rfl (by kernel_rfl) (by first | exact Sb.refl | exact Sb.nil | (repeat (first | exact Sb.nil | exact Sb.refl | exact Sb.app0 | apply Sb.keep | apply Sb.keepApp | apply Sb.cons | apply Sb.app))) (rd_not rfl) rfl (by kernel_rfl) ?_
            refine xm_take 3 (m' := 15) rfl (by kernel_rfl) (by first | exact Sb.refl | exact Sb.nil | (repeat (first | exact Sb.nil | exact Sb.refl | exact Sb.app0 | apply Sb.keep | apply Sb.keepApp | apply Sb.cons | apply Sb.app))) (rd_move rfl) rfl (by kernel_rfl) ?_
            refine xm_gtake 4 (m' := 31) rfl (by kernel_rfl) (by first | exact Sb.refl | exact Sb.nil | (repeat (first | exact Sb.nil | exact Sb.refl | exact Sb.app0 | apply Sb.keep | apply Sb.keepApp | apply Sb.cons | apply Sb.app))) rfl rfl (rd_move rfl) rfl (by kernel_rfl) ?_
            refine xm_gtake 5 (m' := 63) rfl (by kernel_rfl) (by first | exact Sb.refl | exact Sb.nil | (repeat (first | exact Sb.nil | exact Sb.refl | exact Sb.app0 | apply Sb.keep | apply Sb.keepApp | apply Sb.cons | apply Sb.app))) rfl rfl (rd_neq rfl rfl) rfl (by kernel_rfl) ?_
            refine xm_take 6 (m' := 127) rfl (by kernel_rfl) (by first | exact Sb.refl | exact Sb.nil | (repeat (first | exact Sb.nil | exact Sb.refl | exact Sb.app0 | apply Sb.keep | apply Sb.keepApp | apply Sb.cons | apply Sb.app))) (rd_pickf rfl rfl) rfl (by kernel_rfl) ?_
            refine xm_take 7 (m' := 255) rfl (by kernel_rfl) (by first | exact Sb.refl | exact Sb.nil | (repeat (first | exact Sb.nil | exact Sb.refl | exact Sb.app0 | apply Sb.keep | apply Sb.keepApp | apply Sb.cons | apply Sb.app))) (rd_move rfl) rfl (by kernel_rfl) ?_
            refine xm_gtake 8 (m' := 511) rfl (by kernel_rfl) (by first | exact Sb.refl | exact Sb.nil | (repeat (first | exact Sb.nil | exact Sb.refl | exact Sb.app0 | apply Sb.keep | apply Sb.keepApp | apply Sb.cons | apply Sb.app))) rfl rfl (rd_loadB rfl Kn.o0 (by rfl)) rfl (by kernel_rfl) ?_
            refine xm_gtake 9 (m' := 1023) rfl (by kernel_rfl) (by first | exact Sb.refl | exact Sb.nil | (repeat (first | exact Sb.nil | exact Sb.refl | exact Sb.app0 | apply Sb.keep | apply Sb.keepApp | apply Sb.cons | apply Sb.app))) rfl rfl (rd_loadB rfl Kn.o6 (by rfl)) rfl (by kernel_rfl) ?_
            refine xm_gone 10 (m' := 2047) rfl (by kernel_rfl) rfl rfl rfl (by kernel_rfl) (ef_call rfl (XF.mono (xf_dBye z p3 c3 hr3.nilL (by omega)) ?_))
            rintro v L' ⟨s10, k10, l10, rfl, hO10, rfl⟩
            refine xmx_seg [_, _, _, _, _, _, _, _] l10 _ ?_
            refine ⟨(by first | exact Sb.refl | exact Sb.nil | (repeat (first | exact Sb.nil | exact Sb.refl | exact Sb.app0 | apply Sb.keep | apply Sb.keepApp | apply Sb.cons | apply Sb.app))), ?_⟩
            refine xm_gone 11 (m' := 4095) rfl (by kernel_rfl) rfl rfl rfl (by kernel_rfl) (ef_call rfl (XF.mono (xf_sameBye z _ _ _ _ (hO9.rs (by intro z hz; simp [hz])) (hO10.rs (by intro z hz; simp [hz])) (by omega)) ?_))
            rintro v L' ⟨rfl, rfl⟩
            refine ⟨(by first | exact Sb.refl | exact Sb.nil | (repeat (first | exact Sb.nil | exact Sb.refl | exact Sb.app0 | apply Sb.keep | apply Sb.keepApp | apply Sb.cons | apply Sb.app))), ?_⟩
            refine xm_gtake 12 (m' := 8191) rfl (by kernel_rfl) (by first | exact Sb.refl | exact Sb.nil | (repeat (first | exact Sb.nil | exact Sb.refl | exact Sb.app0 | apply Sb.keep | apply Sb.keepApp | apply Sb.cons | apply Sb.app))) rfl rfl (rd_not rfl) rfl (by kernel_rfl) ?_
            refine xm_take 13 (m' := 16383) rfl (by kernel_rfl) (by first | exact Sb.refl | exact Sb.nil | (repeat (first | exact Sb.nil | exact Sb.refl | exact Sb.app0 | apply Sb.keep | apply Sb.keepApp | apply Sb.cons | apply Sb.app))) (rd_pickf rfl rfl) rfl (by kernel_rfl) ?_
            refine xm_done (by kernel_rfl) ?_
            refine xq_seq ?_
            refine xc_condf rfl ?_
            refine xc_skip ?_
          exact xq_sub (List.nil_sublist _) (xq_joined () trivial rfl (by repeat (first | exact keep_nil | refine keep_cons rfl ?_)))
        · focus
            refine xc_seq ?_
            refine xc_region ?_
            refine xo_rd (rd_move rfl) rfl ?_
            refine xo_rd (rd_eql rfl rfl) rfl ?_
            refine xo_nil ?_
            refine xq_seq ?_
            refine xc_dec rfl (fun hq1 => (by exfalso; omega)) (fun hq1 => ?_)
            refine xc_skip ?_
          exact xq_sub (List.nil_sublist _) (xq_joined () trivial rfl (by repeat (first | exact keep_nil | refine keep_cons rfl ?_)))
      · rintro _ _
        focus
          refine xc_seq ?_
          refine xc_region ?_
          refine xo_ef rfl (ef_call rfl (XF.mono (xf_any (fun W => xf_works)) ?_))
          rintro v L' ⟨rfl, rfl⟩
          refine xo_rd (rd_assign rfl) rfl ?_
          refine xo_nil ?_
          refine xq_seq ?_
          refine xc_ret ?_
          exact xq_ret1 (.inl rfl) Try.results6 rfl (rfl)
end Go.Proofs.Ytohlaabclifbfaa.X
/-
  Words of my own for walks: an append to a slice without room, wherever it lies; a text from a place on. No condition; generic over the program.
-/
namespace Go.Proofs.Ytohlaabclifbfaa.X
open Go Go.RowKit
set_option linter.unusedVariables false
set_option linter.unusedSimpArgs false
section
variable {P : Program} {W : World} {n : Nat} {L : List Blk} {E : List (Nat × Value)} {d : Option Nat} {t : TypeId} {pos : String} {after : Array Edge} {g : Option (Nat × Bool)} {K : Value → List Blk → Prop}
theorem ef_appendFull {T e s bt : Nat} {z : Value} {x y : Operand} {b o m k c : Nat} {p : Option Addr} {xs news : List Value} [hT : Sl P T e] [hI : Inf P e z s bt]
    (hx : ev E x = some (.slice (some ⟨b, o, none⟩) m m)) (hy : ev E y = some (.slice p k c)) (hold : Rs W L (some ⟨b, o, none⟩) xs) (hxl : xs.length = m * s) (hsrc : Rs W L p news) (hk : news.length = k * s) (h1a : news.all (·.oneCell') = true) (hs : 0 < s) (hk0 : 0 < k)
    (hfit : (m + k) * bt ≤ 140737488355328) (hsm : m + k ≤ 9223372036854775807) (hK : ∀ q c' l', SlO s e (.slice q (m + k) c') (m + k) (xs ++ news) l' → m + k ≤ c' → K (.slice q (m + k) c') (l' ++ L)) :
    EF P W n L E ⟨d, .call ⟨.builtin .append, #[x, y], #[T, T]⟩, t, pos, after, g⟩ K := by
  refine ⟨fun a w ha hw => ?_⟩
  have hrun : (execOp a.eval ⟨d, .call ⟨.builtin .append, #[x, y], #[T, T]⟩, t, pos, after, g⟩).run P w = ((Builtin.append_ #[T, T] t #[.slice (some ⟨b, o, none⟩) m m, .slice p k c]).run P w).andThen fun v w => .ok (.value v) w := by
    simp [execOp, resolve, invoke, builtin, ha.eval hx, ha.eval hy]
  rw [hrun]
  obtain ⟨i, hi1, hi2, hi3, hi4, hzz⟩ := hI.h
  subst hi3; subst hi4
  have hpos : 0 < news.length := by rw [hk]; exact Nat.mul_pos hk0 hs
  obtain ⟨b0, o0, hp, _⟩ := hsrc 0 _ (List.getElem?_eq_getElem hpos)
  subst hp
  have hnews : ∀ j u, news[j]? = some u → w.cell? ((⟨b0, o0, none⟩ : Addr).add j) = some u := fun j u hj => by
    obtain ⟨b', o', hbo, hc⟩ := hsrc j u hj
    simp only [Option.some.injEq, Addr.mk.injEq] at hbo
    obtain ⟨rfl, rfl, _⟩ := hbo
    rw [add_zero']; exact hc.get hw
  have holds : ∀ j u, xs[j]? = some u → w.cell? ((⟨b, o, none⟩ : Addr).add j) = some u := fun j u hj => by
    obtain ⟨b', o', hbo, hc⟩ := hold j u hj
    simp only [Option.some.injEq, Addr.mk.injEq] at hbo
    obtain ⟨rfl, rfl, _⟩ := hbo
    rw [add_zero']; exact hc.get hw
  have hr := run_append_grow (P := P) w T t e i z hT.h hi1 hi2 ⟨b, o, none⟩ m m xs hxl holds ⟨b0, o0, none⟩ k c news hk hnews (by omega) (by omega) (growslice_fits (by omega) hfit)
  rw [hr]
  have hge := grownCap_ge w (m + k) m e
  refine ⟨_, hw.drew.alloc _, hK _ _ [(w.heap.size, .cells (xs.toArray ++ news.toArray ++ Builtin.zeroCells z.cells (grownCap w (m + k) m e - (m + k))) e (0, 0))] (.inr ⟨w.heap.size, _, grownCap w (m + k) m e, rfl, rfl, by omega, ?_, ?_⟩) (by omega)⟩
  · simp only [Array.size_append, List.size_toArray, size_zeroCells, hk, hxl]
    rw [hzz, ← Nat.add_mul, ← Nat.add_mul]
    congr 1
    omega
  · have : (m + k) * i.size = (xs ++ news).length := by rw [List.length_append, hxl, hk, Nat.add_mul]
    rw [this]
    simp only [Array.toList_append, List.append_assoc]
    rw [← List.append_assoc]
    exact List.take_left
theorem rd_sl3Hi {T e m b o len cap : Nat} {x hi mx : Operand} {k' k'' : IntKind} {j q : Int} [hT : Sl P T e] [hS : Ts P e m] (hx : ev E x = some (.slice (some ⟨b, o, none⟩) len cap)) (hh : ev E hi = some (.int k' j)) (hm : ev E mx = some (.int k'' q))
    (h0 : 0 ≤ j) (h2 : j ≤ q) (h3 : q ≤ cap) :
    RD P W n L E ⟨d, .slice T x none (some hi) (some mx), t, pos, after, g⟩ (.slice (some ⟨b, o, none⟩) j.toNat q.toNat) := .mk fun a w ha hw => by
  have hB := hS.h w
  have e2 : 0 ≤ q := by omega
  have e3 : j ≤ (q.toNat : Int) := by omega
  have e5 : j ≤ max q 0 := by omega
  simp [execOp, ha.eval hx, ha.eval hh, ha.eval hm, Instr.sliceAt, Instr.slice, Instr.sliceBounds, Instr.sliceBound, run_underlying hT.h, asIntOf, hB, h0, h2, h3, e2, e3, e5, add_zero']
/-- A text from a place on. -/
theorem rd_strLo {T : Nat} {x lo : Operand} {k : IntKind} {i : Int} {s : ByteArray} [hT : St P T] (hx : ev E x = some (.string s)) (hl : ev E lo = some (.int k i)) (h0 : 0 ≤ i) (h1 : i ≤ s.size) :
    RD P W n L E ⟨d, .slice T x (some lo) none none, t, pos, after, g⟩ (.string (s.extract i.toNat s.size)) := .mk fun a w ha hw => by
  simp [execOp, ha.eval hx, ha.eval hl, Instr.sliceAt, Instr.slice, Instr.sliceBounds, Instr.sliceBound, run_underlying hT.h, asIntOf, h0, h1]
end
/-! ### several that come up together, guarded or not -/
section
variable {P : Program} {W : World} {n : Nat} {ops : Array Oper} {Q : Exit → Act → World → Prop} {M L : List Blk} {E : List (Nat × Value)} {pm tm : List Nat} {fuel m : Nat}
structure XMS (P : Program) (W : World) (n : Nat) (ops : Array Oper) (Q : Exit → Act → World → Prop) (M : List Blk) (pm tm : List Nat) (fuel m : Nat) (L : List Blk) (E : List (Nat × Value)) (i : Nat) : Prop where
  run : pmOf ops = pm → tmOf ops = tm → Region.noSelect ops = true → ∀ listed, Rep ops.size listed m → ∀ a w, Env n a E → Hp W w L →
    wpOp P ops (NoPanic Q) i (fun a' w' => Hp W w' M ∧ wpAnyH P .any ops (NoPanic Q) (fun w => Hp W w M) fuel (listed.setIfInBounds i true) a' w') a w
theorem xms_ef (i : Nat) {m' : Nat} {d : Option Nat} {op : Op} {t : TypeId} {pos : String} {after : Array Edge} (hi : ops[i]? = some ⟨d, op, t, pos, after, none⟩) (hd : okd n d = true) (hm : m ||| (1 <<< i) = m')
    (hv : EF P W n L E ⟨d, op, t, pos, after, none⟩ (fun v L' => Sb M L' ∧ XM P W n ops Q M pm tm fuel m' L' (pt E d v))) : XMS P W n ops Q M pm tm fuel m L E i := ⟨fun h1 h2 h3 listed hrp a w ha hw => xm_step h1 h2 h3 hi hd hm hrp hv ha hw⟩
theorem xms_gef (i : Nat) {m' : Nat} {d : Option Nat} {op : Op} {t : TypeId} {pos : String} {after : Array Edge} {g gt : Nat} {b : Bool} (hi : ops[i]? = some ⟨d, op, t, pos, after, some (g, b)⟩) (hd : okd n d = true) (hg : (ops[g]?).bind (·.dst) = some gt) (ht : lk E gt = some (.bool b)) (hm : m ||| (1 <<< i) = m')
    (hv : EF P W n L E ⟨d, op, t, pos, after, some (g, b)⟩ (fun v L' => Sb M L' ∧ XM P W n ops Q M pm tm fuel m' L' (pt E d v))) : XMS P W n ops Q M pm tm fuel m L E i := ⟨fun h1 h2 h3 listed hrp a w ha hw => by
  unfold wpOp
  simp only [hi, Region.wanted, yielded_of (ops := ops) ha hg ht, beq_self_eq_true, if_true]
  refine .inl ?_
  unfold Oper.wp
  exact effUp.upon (hv.run a w ha hw) fun v w' ⟨L', h5, h6, h7⟩ => ⟨h6.hp h5, h7.run h1 h2 h3 _ (hm ▸ hrp.set (Array.getElem?_eq_some_iff.1 hi).1) _ _ (ha.pt d v hd) h5⟩⟩
theorem xm_l2 (i k : Nat) (hr : readyM pm.zipIdx m = [i, k]) (s1 : XMS P W n ops Q M pm tm fuel m L E i) (s2 : XMS P W n ops Q M pm tm fuel m L E k) : XM P W n ops Q M pm tm (fuel + 1) m L E := .mk fun h1 h2 h3 listed hrp a w ha hw => by
  have hmem : ∀ j, j ∈ Region.ready .any ops listed ↔ j = i ∨ j = k := fun j => by
    rw [ready_readyM hrp, h1, hr]; simp
  refine ⟨fun h => ?_, fun j hj => ?_⟩
  · have := (hmem i).2 (.inl rfl)
    rw [h] at this; cases this
  · rcases (hmem j).1 hj with rfl | rfl
    · exact s1.run h1 h2 h3 listed hrp a w ha hw
    · exact s2.run h1 h2 h3 listed hrp a w ha hw
theorem xm_l3 (i k l : Nat) (hr : readyM pm.zipIdx m = [i, k, l]) (s1 : XMS P W n ops Q M pm tm fuel m L E i) (s2 : XMS P W n ops Q M pm tm fuel m L E k) (s3 : XMS P W n ops Q M pm tm fuel m L E l) : XM P W n ops Q M pm tm (fuel + 1) m L E := .mk fun h1 h2 h3 listed hrp a w ha hw => by
  have hmem : ∀ j, j ∈ Region.ready .any ops listed ↔ j = i ∨ j = k ∨ j = l := fun j => by
    rw [ready_readyM hrp, h1, hr]; simp
  refine ⟨fun h => ?_, fun j hj => ?_⟩
  · have := (hmem i).2 (.inl rfl)
    rw [h] at this; cases this
  · rcases (hmem j).1 hj with rfl | rfl | rfl
    · exact s1.run h1 h2 h3 listed hrp a w ha hw
    · exact s2.run h1 h2 h3 listed hrp a w ha hw
    · exact s3.run h1 h2 h3 listed hrp a w ha hw
end
end Go.Proofs.Ytohlaabclifbfaa.X
