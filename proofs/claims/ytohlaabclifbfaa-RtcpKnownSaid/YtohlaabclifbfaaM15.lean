/-
  Texts of my own, put together: walks and laws for this seat. No condition.
-/
import Derived.Test.YtohlaabclifbfaaM14
/-
  RtcpKnown: a walk of my own.
-/
namespace Go.Proofs.Ytohlaabclifbfaa.X
open Go Go.RowKit
set_option linter.unusedVariables false
set_option linter.unusedSimpArgs false
set_option maxHeartbeats 16000000 in
theorem xf_RtcpKnown {W : World} : XF Try.prog W 7 #[] [] (fun v L' => v = .bool true) := by
  refine xf_enter (args := []) Try.func7 rfl Try.ntmps7 rfl ?_
  focus
    refine xc_seq ?_
    refine xc_region ?_
    refine xo_rd (rd_assign rfl) rfl ?_
    refine xo_nil ?_
    refine xq_seq ?_
  refine xc_join (ι := Unit) (fun _ => True) (fun _ => []) (fun _ => []) ?_ ?_
  · focus
      refine xc_seq ?_
      refine xc_region ?_
      refine xo_rd (rd_assign rfl) rfl ?_
      refine xo_nil ?_
      refine xq_seq ?_
      refine xc_block ?_
    refine xc_loopI (ι := Nat) (fun n => n ≤ 34) (fun n => 34 - n) (fun _ => []) (fun n => [(1, .int .i64 n)]) 0 (Nat.zero_le _) rfl (by repeat (first | exact keep_nil | refine keep_cons rfl ?_)) ?_
    intro n hn
    by_cases h34 : n < 34
    · obtain ⟨nn, hnn, hnu⟩ : ∃ nn, IntKind.u32.wrap ((n : Int) * (n : Int)) = nn ∧ U4 nn := ⟨_, rfl, by rw [wrap32]; unfold U4; omega⟩
      obtain ⟨re, hre, hrs⟩ : ∃ re, strOfNums (List.replicate (n % 9) 0) = re ∧ re.size ≤ 8 := ⟨_, rfl, by rw [strOfNums_size, List.length_replicate]; omega⟩
      focus
        refine xc_seq ?_
        refine xc_seq ?_
        refine xc_region ?_
        refine xo_rd (rd_move rfl) rfl ?_
        refine xo_rd (rd_lss rfl rfl) rfl ?_
        refine xo_nil ?_
        refine xq_seq ?_
        refine xc_dec rfl (fun h1 => ?_) (fun h1 => (by exfalso; omega))
        refine xc_skip ?_
        refine xq_seq ?_
        refine xc_seq ?_
        refine xc_block ?_
        refine xc_seq ?_
        refine xc_region ?_
        refine xo_rd (rd_move rfl) rfl ?_
        refine xo_rd (rd_convn rfl (by omega) (by omega)) rfl ?_
        refine xo_rd (rd_move rfl) rfl ?_
        refine xo_rd (rd_convn rfl (by omega) (by omega)) rfl ?_
        refine xo_rd (rd_cast (v' := .int .u64 ((n : Int) * 1099511627776)) (rd_shl rfl rfl (by decide) (by decide)) (congrArg (Value.int .u64) (KB.h ((n : Int) * 1099511627776) (by omega) (by omega)))) rfl ?_
        refine xo_rd (rd_move rfl) rfl ?_
        refine xo_rd (rd_move rfl) rfl ?_
        refine xo_rd (rd_muln rfl rfl (Int.le_trans (by decide) (Int.mul_nonneg (Int.natCast_nonneg n) (Int.natCast_nonneg n))) (Int.le_trans (Int.mul_le_mul (show (n : Int) ≤ 34 by omega) (show (n : Int) ≤ 34 by omega) (Int.natCast_nonneg n) (by decide)) (by decide))) rfl ?_
        refine xo_rd (rd_cast (v' := .int .u32 nn) (rd_conv rfl) (congrArg (Value.int .u32) hnn)) rfl ?_
        refine xo_rd (rd_build rfl rfl rfl) rfl ?_
        refine xo_ef rfl (ef_alloc fun r2 => ?_)
        refine xo_ef rfl (ef_storeB [] _ rfl rfl (by first | rfl | assumption) rfl rfl rfl ?_)
        refine xo_nil ?_
        refine xq_seq ?_
        refine xc_seq ?_
        refine xc_region ?_
        refine xo_rd (rd_assign rfl) rfl ?_
        refine xo_nil ?_
        refine xq_seq ?_
        refine xc_seq ?_
        refine xc_region ?_
        refine xo_rd (rd_move rfl) rfl ?_
        refine xo_rd (rd_remn rfl rfl (by omega) (by omega)) rfl ?_
        refine xo_ef rfl (ef_makeSlice rfl rfl rfl (by omega) (by omega) (by omega) (by decide) fun r42 => ?_)
        refine xo_rd (rd_cast (v' := .string re) (rd_convStr (bs := List.replicate (n % 9) 0) (by rw [ints_rep]; exact Rs.fresh (List.Mem.head _)) rfl (by rw [List.length_replicate]; omega)) (congrArg Value.string hre)) rfl ?_
        refine xo_rd (rd_build rfl rfl rfl) rfl ?_
        refine xo_ef rfl (ef_alloc fun r4 => ?_)
        refine xo_ef rfl (ef_storeB [] _ rfl rfl (by first | rfl | assumption) rfl rfl rfl ?_)
        refine xo_nil ?_
        refine xq_seq ?_
        refine xc_seq ?_
        refine xc_seq ?_
        refine xc_region ?_
        refine xo_rd (rd_assign rfl) rfl ?_
        refine xo_nil ?_
        refine xq_seq ?_
        refine xc_block ?_
      refine xc_sub (L' := (r4, .cells #[.slice none 0 0, .string re] 57 (0, 0)) :: (r2, .cells #[.int .u32 n, .int .u64 ((n : Int) * 1099511627776), .int .u32 7, .int .u32 nn, .int .u32 2147483648, .slice none 0 0] 53 (0, 0)) :: []) (.cons_cons _ (.cons _ (List.Sublist.refl _))) ?_
      refine xc_loopI (ι := KnS) (KnI n) (fun z => n - z.i) (fun z => (r4, .cells #[.slice z.s3 z.i z.k3, .string re] 57 (0, 0)) :: (r2, .cells #[.int .u32 n, .int .u64 ((n : Int) * 1099511627776), .int .u32 7, .int .u32 nn, .int .u32 2147483648, .slice z.s1 z.i z.k1] 53 (0, 0)) :: (z.l1 ++ (z.l2 ++ (z.l3 ++ [])))) (fun z => [(1, .int .i64 n), (2, .pointer (some ⟨r2, 0, none⟩)), (3, .slice z.s2 z.i z.k2), (4, .pointer (some ⟨r4, 0, none⟩)), (5, .int .i64 z.i)]) ⟨0, [], [], [], none, 0, [], none, 0, [], none, 0, []⟩ ⟨Nat.zero_le _, rfl, rfl, rfl, (fun x h => by cases h), (fun x h => by cases h), (fun x h => by cases h), SlO.nil, SlO.nil, SlO.nil⟩ rfl (by repeat (first | exact keep_nil | refine keep_cons rfl ?_)) ?_
      rintro ⟨i, bl, cs, so, s1, k1, l1, s2, k2, l2, s3, k3, l3⟩ ⟨hi, b1, b2, b3, q1, q2, q3, o1, o2, o3⟩
      dsimp only at hi b1 b2 b3 q1 q2 q3 o1 o2 o3 ⊢
      by_cases hin : i < n
      · obtain ⟨lo, hlo, hlB⟩ : ∃ lo, IntKind.u8.wrap ((i : Int) * 9) = lo ∧ By lo := ⟨_, rfl, by rw [wrap8]; unfold By; omega⟩
        obtain ⟨nm, hnm, hns⟩ : ∃ nm, strOfNums (List.replicate (i % 7) 0) = nm ∧ nm.size ≤ 8 := ⟨_, rfl, by rw [strOfNums_size, List.length_replicate]; omega⟩
        obtain ⟨pr, hpr, hpu⟩ : ∃ pr, IntKind.u32.wrap ((i : Int) * (n : Int)) = pr ∧ U4 pr := ⟨_, rfl, by rw [wrap32]; unfold U4; omega⟩
        focus
          refine xc_seq ?_
          refine xc_seq ?_
          refine xc_region ?_
          refine xo_rd (rd_move rfl) rfl ?_
          refine xo_rd (rd_move rfl) rfl ?_
          refine xo_rd (rd_lss rfl rfl) rfl ?_
          refine xo_nil ?_
          refine xq_seq ?_
          refine xc_dec rfl (fun h1 => ?_) (fun h1 => (by exfalso; omega))
          refine xc_skip ?_
          refine xq_seq ?_
          refine xc_seq ?_
          refine xc_block ?_
          refine xc_seq ?_
          refine xc_region ?_
          refine xo_rd (rd_fieldAddr rfl) rfl ?_
          refine xo_rd (rd_load1 rfl (Cl.o1 rfl)) rfl ?_
          refine xo_rd (rd_move rfl) rfl ?_
          refine xo_rd (rd_convn rfl (by omega) (by omega)) rfl ?_
          refine xo_rd (rd_move rfl) rfl ?_
          refine xo_rd (rd_muln rfl rfl (by omega) (by omega)) rfl ?_
          refine xo_rd (rd_cast (v' := .int .u8 lo) (rd_conv rfl) (congrArg (Value.int .u8) hlo)) rfl ?_
          refine xo_rd (rd_move rfl) rfl ?_
          refine xo_rd (rd_muln rfl rfl (by omega) (by omega)) rfl ?_
          refine xo_rd (rd_subn rfl rfl (by omega) (by omega)) rfl ?_
          refine xo_rd (rd_convn rfl (by omega) (by omega)) rfl ?_
          refine xo_rd (rd_move rfl) rfl ?_
          refine xo_rd (rd_convn rfl (by omega) (by omega)) rfl ?_
          refine xo_rd (rd_cast (v' := .int .u32 ((i : Int) * 65536)) (rd_shl rfl rfl (by decide) (by decide)) (congrArg (Value.int .u32) (KB.h ((i : Int) * 65536) (by omega) (by omega)))) rfl ?_
          refine xo_rd (rd_move rfl) rfl ?_
          refine xo_rd (rd_convn rfl (by omega) (by omega)) rfl ?_
          refine xo_rd (rd_build rfl rfl rfl) rfl ?_
          refine xo_ef rfl (ef_sliceA (vs := Bk.enc ⟨i, lo, (i : Int) * 300000 - 4000000, (i : Int) * 65536, 5, 1073741824, n⟩) rfl rfl (by rw [Bk.len]; decide) (by rw [Bk.len]; decide) fun r67 => ?_)
          refine xo_ef rfl (ef_appendS [_, _, _] _ l1 (news := Bk.enc ⟨i, lo, (i : Int) * 300000 - 4000000, (i : Int) * 65536, 5, 1073741824, n⟩) rfl rfl o1 rfl (Rs.fresh (List.Mem.head _)) rfl rfl (by decide) (by omega) (by omega) fun t1 j1 m1 w1 v1 => ?_)
          refine xo_rd (rd_fieldAddr rfl) rfl ?_
          refine xo_ef rfl (ef_store1 [_, _] _ rfl rfl (by first | rfl | assumption) rfl rfl rfl ?_)
          refine xo_nil ?_
          refine xq_seq ?_
          refine xc_seq ?_
          refine xc_region ?_
          refine xo_rd (rd_move rfl) rfl ?_
          refine xo_rd (rd_move rfl) rfl ?_
          refine xo_rd (rd_convn rfl (by omega) (by omega)) rfl ?_
          refine xo_rd (rd_move rfl) rfl ?_
          refine xo_rd (rd_remn rfl rfl (by omega) (by omega)) rfl ?_
          refine xo_ef rfl (ef_makeSlice rfl rfl rfl (by omega) (by omega) (by omega) (by decide) fun r75 => ?_)
          refine xo_rd (rd_cast (v' := .string nm) (rd_convStr (bs := List.replicate (i % 7) 0) (by rw [ints_rep]; exact Rs.fresh (List.Mem.head _)) rfl (by rw [List.length_replicate]; omega)) (congrArg Value.string hnm)) rfl ?_
          refine xo_rd (rd_build rfl rfl rfl) rfl ?_
          refine xo_ef rfl (ef_sliceA (vs := Ck.enc ⟨i, nm⟩) rfl rfl (by rw [Ck.len]; decide) (by rw [Ck.len]; decide) fun r78 => ?_)
          refine xo_ef rfl (ef_appendS ([_, _, _, _, _] ++ m1) _ l2 (news := Ck.enc ⟨i, nm⟩) rfl rfl o2 rfl (Rs.fresh (List.Mem.head _)) rfl rfl (by decide) (by omega) (by omega) fun t2 j2 m2 w2 v2 => ?_)
          refine xo_rd (rd_assign rfl) rfl ?_
          refine xo_nil ?_
          refine xq_seq ?_
          refine xc_region ?_
          refine xo_rd (rd_fieldAddr rfl) rfl ?_
          refine xo_rd (rd_load1 rfl (Cl.o3 rfl)) rfl ?_
          refine xo_rd (rd_move rfl) rfl ?_
          refine xo_rd (rd_move rfl) rfl ?_
          refine xo_rd (rd_muln rfl rfl (Int.le_trans (by decide) (Int.mul_nonneg (Int.natCast_nonneg i) (Int.natCast_nonneg n))) (Int.le_trans (Int.mul_le_mul (show (i : Int) ≤ 34 by omega) (show (n : Int) ≤ 34 by omega) (Int.natCast_nonneg n) (by decide)) (by decide))) rfl ?_
          refine xo_rd (rd_cast (v' := .int .u32 pr) (rd_conv rfl) (congrArg (Value.int .u32) hpr)) rfl ?_
          refine xo_ef rfl (ef_slice1 rfl rfl rfl fun r86 => ?_)
          refine xo_ef rfl (ef_perm (perm_x ([_, _, _, _, _, _] ++ m1) m2 l3 []) (ef_appendS [] _ l3 (news := [.int .u32 pr]) rfl rfl o3 rfl (Rs.fresh (List.mem_append_right _ (List.mem_append_right _ (List.mem_append_left _ (List.mem_append_left _ (List.Mem.head _)))))) rfl rfl (by decide) (by omega) (by omega) fun t3 j3 m3 w3 v3 => xo_perm (perm_y ([_, _, _, _, _, _] ++ m1) m2 m3 []) ?_))
          refine xo_rd (rd_fieldAddr rfl) rfl ?_
          refine xo_ef rfl (ef_store1 [_, _, _, _] _ rfl rfl (by first | rfl | assumption) rfl rfl rfl ?_)
          refine xo_nil ?_
          refine xq_block ?_
          refine xq_seq ?_
          refine xc_region ?_
          refine xo_rd (rd_move rfl) rfl ?_
          refine xo_rd (rd_addn rfl rfl (by omega) (by omega)) rfl ?_
          refine xo_rd (rd_assign rfl) rfl ?_
          refine xo_nil ?_
        refine xq_sub (L' := (r4, .cells #[.slice t3 (i + 1) j3, .string re] 57 (0, 0)) :: (r2, .cells #[.int .u32 n, .int .u64 ((n : Int) * 1099511627776), .int .u32 7, .int .u32 nn, .int .u32 2147483648, .slice t1 (i + 1) j1] 53 (0, 0)) :: (m1 ++ (m2 ++ (m3 ++ [])))) (.cons _ (.cons _ (.cons _ (.cons _ (List.Sublist.refl _))))) (xq_roundI (⟨i + 1, bl ++ [⟨i, lo, (i : Int) * 300000 - 4000000, (i : Int) * 65536, 5, 1073741824, n⟩], cs ++ [⟨i, nm⟩], so ++ [pr], t1, j1, m1, t2, j2, m2, t3, j3, m3⟩ : KnS) ⟨by dsimp only; omega, by simp [b1], by simp [b2], by simp [b3], fun b hb => ?_, fun c hc => ?_, fun y hy => ?_, ?_, ?_, ?_⟩ (by dsimp only; omega) rfl (by repeat (first | exact keep_nil | refine keep_cons rfl ?_)))
        · rcases List.mem_append.1 hb with h | h
          · exact q1 b h
          · rw [List.mem_singleton.1 h]
            exact ⟨by unfold U4; dsimp only; omega, hlB, by dsimp only; omega, by unfold U4; dsimp only; omega, ⟨(by decide : (0 : Int) ≤ 5), (by decide : (5 : Int) ≤ 4294967295)⟩, ⟨(by decide : (0 : Int) ≤ 1073741824), (by decide : (1073741824 : Int) ≤ 4294967295)⟩, by unfold U4; dsimp only; omega⟩
        · rcases List.mem_append.1 hc with h | h
          · exact q2 c h
          · rw [List.mem_singleton.1 h]; unfold U4; dsimp only; omega
        · rcases List.mem_append.1 hy with h | h
          · exact q3 y h
          · rw [List.mem_singleton.1 h]; exact hpu
        · dsimp only; rw [List.flatMap_append, List.flatMap_singleton]; exact w1
        · dsimp only; rw [List.flatMap_append, List.flatMap_singleton]; exact w2
        · dsimp only; rw [ints_app]; exact w3
      · obtain rfl : i = n := by omega
        have hx : Sn.Rg ⟨i, (i : Int) * 1099511627776, 7, nn, 2147483648, bl⟩ := ⟨by unfold U4; dsimp only; omega, by dsimp only; omega, ⟨(by decide : (0 : Int) ≤ 7), (by decide : (7 : Int) ≤ 4294967295)⟩, hnu, ⟨(by decide : (0 : Int) ≤ 2147483648), (by decide : (2147483648 : Int) ≤ 4294967295)⟩, q1⟩
        focus
          refine xc_seq ?_
          refine xc_seq ?_
          refine xc_region ?_
          refine xo_rd (rd_move rfl) rfl ?_
          refine xo_rd (rd_move rfl) rfl ?_
          refine xo_rd (rd_lss rfl rfl) rfl ?_
          refine xo_nil ?_
          refine xq_seq ?_
          refine xc_dec rfl (fun h1 => (by exfalso; omega)) (fun h1 => ?_)
          refine xc_exit ?_
          refine xq_then_exit ?_
          refine xq_then_exit ?_
          refine xq_block_hit ?_
          refine xq_seq ?_
          refine xc_seq ?_
          refine xc_seq ?_
          refine xc_region ?_
          refine xo_rd (rd_loadB rfl Kn.o1 (by rfl)) rfl ?_
          refine xo_rd (rd_move rfl) rfl ?_
          refine xo_rd (rd_loadB rfl Kn.o0 (by rfl)) rfl ?_
          refine xo_ef rfl (ef_call rfl (XF.mono (xk_puts ⟨i, (i : Int) * 1099511627776, 7, nn, 2147483648, bl⟩ hx s1 i k1 b1 (o1.rs (by intro z hz; simp [hz])) (by dsimp only; omega) s2 i k2 cs b2 (o2.rs (by intro z hz; simp [hz])) q2 (by omega) ⟨so, re⟩ s3 i k3 b3 (o3.rs (by intro z hz; simp [hz])) q3 (by dsimp only; omega) (by dsimp only; omega)) ?_))
          rintro v L' ⟨rfl, rfl⟩
          refine xo_rd (rd_not rfl) rfl ?_
          refine xo_nil ?_
          refine xq_seq ?_
          refine xc_condf rfl ?_
          refine xc_skip ?_
          refine xq_seq ?_
        clear b1 b2 b3
        have hx' : Sn.Rg ⟨1, 0, 0, 0, 0, bl.take (i % 3)⟩ := ⟨⟨(by decide : (0 : Int) ≤ 1), (by decide : (1 : Int) ≤ 4294967295)⟩, ⟨(by decide : (0 : Int) ≤ 0), (by decide : (0 : Int) ≤ 18446744073709551615)⟩, ⟨(by decide : (0 : Int) ≤ 0), (by decide : (0 : Int) ≤ 4294967295)⟩, ⟨(by decide : (0 : Int) ≤ 0), (by decide : (0 : Int) ≤ 4294967295)⟩, ⟨(by decide : (0 : Int) ≤ 0), (by decide : (0 : Int) ≤ 4294967295)⟩, fun b hb => q1 b (List.mem_of_mem_take hb)⟩
        have b1' : (bl.take (i % 3)).length = i % 3 := by have := o1.len; rw [flat_length Bk.enc Bk.len] at this; rw [List.length_take]; omega
        have b2' : (cs.take (i % 4)).length = i % 4 := by have := o2.len; rw [flat_length Ck.enc Ck.len] at this; rw [List.length_take]; omega
        have b3' : (so.take (i % 3)).length = i % 3 := by have := o3.len; rw [ints_len] at this; rw [List.length_take]; omega
        have c1 := o1.cap.2
        have c2 := o2.cap.2
        have c3 := o3.cap.2
        obtain ⟨⟨qa, ea⟩, hza⟩ : ∃ w, sndR ⟨1, 0, 0, 0, 0, bl.take (i % 3)⟩ = w := ⟨_, rfl⟩
        obtain ⟨⟨qc, ec⟩, hzc⟩ : ∃ w, putCh (cs.take (i % 4)) = w := ⟨_, rfl⟩
        obtain ⟨⟨qd, ed⟩, hzd⟩ : ∃ w, putBy ⟨so.take (i % 3), re⟩ = w := ⟨_, rfl⟩
        have hua : ∀ c, c ∈ cs.take (i % 4) → U4 c.ss := fun c hc => q2 c (List.mem_of_mem_take hc)
        have hub : ∀ y, y ∈ so.take (i % 3) → U4 y := fun y hy => q3 y (List.mem_of_mem_take hy)
        have ga : qa.Rg := by have := sndR_rg hx'; rwa [hza] at this
        have gc : qc.Rg := by have := putCh_rg hua; rwa [hzc] at this
        have gd : qd.Rg := by have := putBy_rg (x := ⟨so.take (i % 3), re⟩) hub; rwa [hzd] at this
        have la : qa.bd.length ≤ 1000 := by have := sndR_len ⟨1, 0, 0, 0, 0, bl.take (i % 3)⟩; rw [hza] at this; dsimp only at this; omega
        have lc : qc.bd.length ≤ 1000 := by have := putCh_len (cs.take (i % 4)); rw [hzc] at this; dsimp only at this; omega
        have ld : qd.bd.length ≤ 1000 := by have := putBy_len ⟨so.take (i % 3), re⟩; rw [hzd] at this; dsimp only at this; omega
        have R1 : ∀ A, Rs W (A ++ (l1 ++ (l2 ++ (l3 ++ [])))) s1 ((bl.take (i % 3)).flatMap Bk.enc) := fun A => (o1.rs (by intro z hz; simp [hz])).flat_take Bk.len _
        have R2 : ∀ A, Rs W (A ++ (l1 ++ (l2 ++ (l3 ++ [])))) s2 ((cs.take (i % 4)).flatMap Ck.enc) := fun A => (o2.rs (by intro z hz; simp [hz])).flat_take Ck.len _
        have R3 : ∀ A, Rs W (A ++ (l1 ++ (l2 ++ (l3 ++ [])))) s3 (ints .u32 (so.take (i % 3))) := fun A => (o3.rs (by intro z hz; simp [hz])).ints_take _
        generalize l1 ++ (l2 ++ (l3 ++ [])) = G0 at *
        focus
          refine xc_seq ?_
          refine xc_region ?_
          refine xo_rd (rd_fieldAddr rfl) rfl ?_
          refine xo_rd (rd_load1 rfl (Cl.o1 rfl)) rfl ?_
          refine xo_rd (rd_move rfl) rfl ?_
          refine xo_rd (rd_remn rfl rfl (by omega) (by omega)) rfl ?_
          refine xo_rd (rd_slHi rfl rfl (by omega) (by omega)) rfl ?_
          refine xo_rd (rd_build rfl rfl rfl) rfl ?_
          refine xo_ef rfl (ef_alloc fun r6 => ?_)
          refine xo_ef rfl (ef_storeB [] _ rfl rfl (by first | rfl | assumption) rfl rfl rfl ?_)
          refine xo_nil ?_
          refine xq_seq ?_
          refine xc_seq ?_
          refine xc_region ?_
          refine xo_rd (rd_loadB rfl Kn.o0 (by rfl)) rfl ?_
          refine xo_ef rfl (ef_call rfl (XF.mono (xk_sender ⟨1, 0, 0, 0, 0, bl.take (i % 3)⟩ hx' s1 (i % 3) k1 b1' qa ea hza (R1 [_, _, _]) (by omega)) ?_))
          rintro v L' ⟨xa, rfl, hqa, hoa, rfl⟩
          refine xo_seg [_, _, _] xa.l _ ?_
          refine xo_rd (rd_move rfl) rfl ?_
          refine xo_rd (rd_extract rfl rfl) rfl ?_
          refine xo_rd (rd_extract rfl rfl) rfl ?_
          refine xo_ef rfl (ef_alloc fun r7 => ?_)
          refine xo_ef rfl (ef_storeB [] _ rfl rfl (by first | rfl | assumption) rfl rfl rfl ?_)
          refine xo_rd (rd_assign rfl) rfl ?_
          refine xo_nil ?_
          refine xq_seq ?_
          refine xc_seq ?_
          refine xc_region ?_
          refine xo_rd (rd_move rfl) rfl ?_
          refine xo_rd (rd_move rfl) rfl ?_
          refine xo_rd (rd_remn rfl rfl (by omega) (by omega)) rfl ?_
          refine xo_rd (rd_slHi rfl rfl (by omega) (by omega)) rfl ?_
          refine xo_ef rfl (ef_call rfl (XF.mono (xg_chunks s2 (i % 4) k2 (cs.take (i % 4)) qc ec hzc b2' ((R2 []).mono fun z hz => List.mem_append_right [_, _, _, _] (List.mem_append_right _ hz)) hua (by omega)) ?_))
          rintro v L' ⟨xc, rfl, hqc, hoc, rfl⟩
          refine xo_seg [_, _, _, _] xc.l _ ?_
          refine xo_rd (rd_move rfl) rfl ?_
          refine xo_rd (rd_extract rfl rfl) rfl ?_
          refine xo_rd (rd_extract rfl rfl) rfl ?_
          refine xo_ef rfl (ef_alloc fun r9 => ?_)
          refine xo_ef rfl (ef_storeB [] _ rfl rfl (by first | rfl | assumption) rfl rfl rfl ?_)
          refine xo_rd (rd_assign rfl) rfl ?_
          refine xo_nil ?_
          refine xq_seq ?_
        refine xc_sub (L' := (r9, .cells xc.enc.toArray 35 (0, 0)) :: (r7, .cells xa.enc.toArray 35 (0, 0)) :: (r4, .cells #[.slice s3 i k3, .string re] 57 (0, 0)) :: (xc.l ++ (xa.l ++ G0))) (.cons_cons _ (.cons_cons _ (.cons _ (.cons_cons _ (.cons _ (List.Sublist.refl _)))))) ?_
        refine xc_join (ι := KdS) (fun z => z.x.q = qd ∧ z.x.Ok) (fun z => (z.r, .cells z.x.enc.toArray 35 (0, 0)) :: (r9, .cells xc.enc.toArray 35 (0, 0)) :: (r7, .cells xa.enc.toArray 35 (0, 0)) :: (z.x.l ++ (xc.l ++ (xa.l ++ G0)))) (fun z => [(1, .int .i64 i), (7, .pointer (some ⟨r7, 0, none⟩)), (9, .pointer (some ⟨r9, 0, none⟩)), (11, .pointer (some ⟨z.r, 0, none⟩))]) ?_ ?_
        · skip
          focus
            refine xc_drawM [0, 1, 0, 4, 10, 0, 32, 80, 128, 256, 512, 512, 0, 6143, 16383] [0, 1, 0, 4, 10, 0, 32, 80, 128, 256, 512, 512, 0, 6143, 16383] ([(r4, .cells #[.slice s3 i k3, .string re] 57 (0, 0))]) (by kernel_rfl) (by kernel_rfl) (by kernel_rfl) ?_
            refine xm_take 0 (m' := 1) rfl (by kernel_rfl) (by first | exact Sb.refl | exact Sb.nil | (repeat (first | exact Sb.nil | exact Sb.refl | exact Sb.app0 | apply Sb.keep | apply Sb.keepApp | apply Sb.cons | apply Sb.app))) (rd_fieldAddr rfl) rfl (by kernel_rfl) ?_
            refine xm_take 1 (m' := 3) rfl (by kernel_rfl) (by first | exact Sb.refl | exact Sb.nil | (repeat (first | exact Sb.nil | exact Sb.refl | exact Sb.app0 | apply Sb.keep | apply Sb.keepApp | apply Sb.cons | apply Sb.app))) (rd_load1 rfl (Cl.o0 rfl)) rfl (by kernel_rfl) ?_
            refine xm_take 2 (m' := 7) rfl (by kernel_rfl) (by first | exact Sb.refl | exact Sb.nil | (repeat (first | exact Sb.nil | exact Sb.refl | exact Sb.app0 | apply Sb.keep | apply Sb.keepApp | apply Sb.cons | apply Sb.app))) (rd_move rfl) rfl (by kernel_rfl) ?_
            refine xm_take 3 (m' := 15) rfl (by kernel_rfl) (by first | exact Sb.refl | exact Sb.nil | (repeat (first | exact Sb.nil | exact Sb.refl | exact Sb.app0 | apply Sb.keep | apply Sb.keepApp | apply Sb.cons | apply Sb.app))) (rd_remn rfl rfl (by omega) (by omega)) rfl (by kernel_rfl) ?_
            refine xm_take 4 (m' := 31) rfl (by kernel_rfl) (by first | exact Sb.refl | exact Sb.nil | (repeat (first | exact Sb.nil | exact Sb.refl | exact Sb.app0 | apply Sb.keep | apply Sb.keepApp | apply Sb.cons | apply Sb.app))) (rd_slHi rfl rfl (by omega) (by omega)) rfl (by kernel_rfl) ?_
            refine xm_take 5 (m' := 63) rfl (by kernel_rfl) (by first | exact Sb.refl | exact Sb.nil | (repeat (first | exact Sb.nil | exact Sb.refl | exact Sb.app0 | apply Sb.keep | apply Sb.keepApp | apply Sb.cons | apply Sb.app))) (rd_fieldAddr rfl) rfl (by kernel_rfl) ?_
            refine xm_take 6 (m' := 127) rfl (by kernel_rfl) (by first | exact Sb.refl | exact Sb.nil | (repeat (first | exact Sb.nil | exact Sb.refl | exact Sb.app0 | apply Sb.keep | apply Sb.keepApp | apply Sb.cons | apply Sb.app))) (rd_load1 rfl (Cl.o0 rfl)) rfl (by kernel_rfl) ?_
            refine xm_take 7 (m' := 255) rfl (by kernel_rfl) (by first | exact Sb.refl | exact Sb.nil | (repeat (first | exact Sb.nil | exact Sb.refl | exact Sb.app0 | apply Sb.keep | apply Sb.keepApp | apply Sb.cons | apply Sb.app))) (rd_build rfl rfl rfl) rfl (by kernel_rfl) ?_
            refine xm_two 8 12 (mi := 511) (mk := 4351) rfl rfl (by kernel_rfl) rfl rfl (by kernel_rfl) (by kernel_rfl) (ef_call rfl (XF.mono (xk_bye ⟨so.take (i % 3), re⟩ s3 (i % 3) k3 b3' qd ed hzd ((R3 []).mono fun z hz => by simp at hz; simp [hz]) hub (by omega) (by dsimp only; omega)) ?_)) (ef_alloc fun r11 => ⟨(by first | exact Sb.refl | exact Sb.nil | (repeat (first | exact Sb.nil | exact Sb.refl | exact Sb.app0 | apply Sb.keep | apply Sb.keepApp | apply Sb.cons | apply Sb.app))), ?_⟩)
            rotate_left
            rotate_right
            rintro v L' ⟨xd, rfl, hqd, hod, rfl⟩
            refine xmx_seg [_, _, _] xd.l _ ?_
            refine ⟨(by first | exact Sb.refl | exact Sb.nil | (repeat (first | exact Sb.nil | exact Sb.refl | exact Sb.app0 | apply Sb.keep | apply Sb.keepApp | apply Sb.cons | apply Sb.app))), ?_⟩
            refine xm_take 9 (m' := 1023) rfl (by kernel_rfl) (by first | exact Sb.refl | exact Sb.nil | (repeat (first | exact Sb.nil | exact Sb.refl | exact Sb.app0 | apply Sb.keep | apply Sb.keepApp | apply Sb.cons | apply Sb.app))) (rd_move rfl) rfl (by kernel_rfl) ?_
            refine xm_take 10 (m' := 2047) rfl (by kernel_rfl) (by first | exact Sb.refl | exact Sb.nil | (repeat (first | exact Sb.nil | exact Sb.refl | exact Sb.app0 | apply Sb.keep | apply Sb.keepApp | apply Sb.cons | apply Sb.app))) (rd_extract rfl rfl) rfl (by kernel_rfl) ?_
            refine xm_take 11 (m' := 4095) rfl (by kernel_rfl) (by first | exact Sb.refl | exact Sb.nil | (repeat (first | exact Sb.nil | exact Sb.refl | exact Sb.app0 | apply Sb.keep | apply Sb.keepApp | apply Sb.cons | apply Sb.app))) (rd_extract rfl rfl) rfl (by kernel_rfl) ?_
            refine xm_one 12 (m' := 8191) rfl (by kernel_rfl) rfl (by kernel_rfl) (ef_alloc fun r11 => ?_)
            refine ⟨(by first | exact Sb.refl | exact Sb.nil | (repeat (first | exact Sb.nil | exact Sb.refl | exact Sb.app0 | apply Sb.keep | apply Sb.keepApp | apply Sb.cons | apply Sb.app))), ?_⟩
            refine xm_one 13 (m' := 16383) rfl (by kernel_rfl) rfl (by kernel_rfl) (ef_storeB [] _ rfl rfl (by first | rfl | assumption) rfl rfl rfl ?_)
            refine ⟨(by first | exact Sb.refl | exact Sb.nil | (repeat (first | exact Sb.nil | exact Sb.refl | exact Sb.app0 | apply Sb.keep | apply Sb.keepApp | apply Sb.cons | apply Sb.app))), ?_⟩
            refine xm_take 14 (m' := 32767) rfl (by kernel_rfl) (by first | exact Sb.refl | exact Sb.nil | (repeat (first | exact Sb.nil | exact Sb.refl | exact Sb.app0 | apply Sb.keep | apply Sb.keepApp | apply Sb.cons | apply Sb.app))) (rd_assign rfl) rfl (by kernel_rfl) ?_
            refine xm_done (by kernel_rfl) ?_
            rotate_left
            refine xm_one 8 (m' := 4607) rfl (by kernel_rfl) rfl (by kernel_rfl) (ef_call rfl (XF.mono (xk_bye ⟨so.take (i % 3), re⟩ s3 (i % 3) k3 b3' qd ed hzd ((R3 []).mono fun z hz => by simp at hz; simp [hz]) hub (by omega) (by dsimp only; omega)) ?_))
            rintro v L' ⟨xd, rfl, hqd, hod, rfl⟩
            refine xmx_seg [_, _, _] xd.l _ ?_
            refine ⟨(by first | exact Sb.refl | exact Sb.nil | (repeat (first | exact Sb.nil | exact Sb.refl | exact Sb.app0 | apply Sb.keep | apply Sb.keepApp | apply Sb.cons | apply Sb.app))), ?_⟩
            refine xm_take 9 (m' := 5119) rfl (by kernel_rfl) (by first | exact Sb.refl | exact Sb.nil | (repeat (first | exact Sb.nil | exact Sb.refl | exact Sb.app0 | apply Sb.keep | apply Sb.keepApp | apply Sb.cons | apply Sb.app))) (rd_move rfl) rfl (by kernel_rfl) ?_
            refine xm_take 10 (m' := 6143) rfl (by kernel_rfl) (by first | exact Sb.refl | exact Sb.nil | (repeat (first | exact Sb.nil | exact Sb.refl | exact Sb.app0 | apply Sb.keep | apply Sb.keepApp | apply Sb.cons | apply Sb.app))) (rd_extract rfl rfl) rfl (by kernel_rfl) ?_
            refine xm_take 11 (m' := 8191) rfl (by kernel_rfl) (by first | exact Sb.refl | exact Sb.nil | (repeat (first | exact Sb.nil | exact Sb.refl | exact Sb.app0 | apply Sb.keep | apply Sb.keepApp | apply Sb.cons | apply Sb.app))) (rd_extract rfl rfl) rfl (by kernel_rfl) ?_
            refine xm_one 13 (m' := 16383) rfl (by kernel_rfl) rfl (by kernel_rfl) (ef_storeB [] _ rfl rfl (by first | rfl | assumption) rfl rfl rfl ?_)
            refine ⟨(by first | exact Sb.refl | exact Sb.nil | (repeat (first | exact Sb.nil | exact Sb.refl | exact Sb.app0 | apply Sb.keep | apply Sb.keepApp | apply Sb.cons | apply Sb.app))), ?_⟩
            refine xm_take 14 (m' := 32767) rfl (by kernel_rfl) (by first | exact Sb.refl | exact Sb.nil | (repeat (first | exact Sb.nil | exact Sb.refl | exact Sb.app0 | apply Sb.keep | apply Sb.keepApp | apply Sb.cons | apply Sb.app))) (rd_assign rfl) rfl (by kernel_rfl) ?_
            refine xm_done (by kernel_rfl) ?_
            rotate_left
          · exact xq_sub (.cons_cons _ (.cons_cons _ (.cons_cons _ (.cons _ (List.Sublist.refl _))))) (xq_joined (⟨r11, xd⟩ : KdS) ⟨hqd, hod⟩ rfl (by repeat (first | exact keep_nil | refine keep_cons rfl ?_)))
          · exact xq_sub (.cons_cons _ (.cons_cons _ (.cons_cons _ (List.Sublist.append_left (List.sublist_cons_self _ _) xd.l)))) (xq_joined (⟨r11, xd⟩ : KdS) ⟨hqd, hod⟩ rfl (by repeat (first | exact keep_nil | refine keep_cons rfl ?_)))
        · rintro ⟨r11, xd⟩ ⟨hqd, hod⟩
          dsimp only at hqd hod ⊢
          subst hqa hqc hqd
          obtain ⟨⟨ct, kd, bd, pd0⟩, dp, dc, dl⟩ := xd
          obtain ⟨pd, hpd⟩ : ∃ pd, (i : Int) % 3 * 4 = pd := ⟨_, rfl⟩
          have hpdB : 0 ≤ pd ∧ pd ≤ 8 := by omega
          dsimp only at gd ld hod
          have gd' : Pc.Rg ⟨ct, kd, bd, pd⟩ := ⟨gd.ct, gd.kd, gd.bd, (by unfold By; dsimp only; omega)⟩
          have hod' : Pb.Ok ⟨⟨ct, kd, bd, pd⟩, dp, dc, dl⟩ := hod
          focus
            refine xc_seq ?_
            refine xc_region ?_
            refine xo_rd (rd_move rfl) rfl ?_
            refine xo_rd (rd_remn rfl rfl (by omega) (by omega)) rfl ?_
            refine xo_rd (rd_muln rfl rfl (by omega) (by omega)) rfl ?_
            refine xo_rd (rd_cast (v' := .int .u8 pd) (rd_convn rfl (by omega) (by omega)) (congrArg (Value.int .u8) hpd)) rfl ?_
            refine xo_rd (rd_fieldAddr rfl) rfl ?_
            refine xo_ef rfl (ef_store1 [] _ rfl rfl (by first | rfl | assumption) rfl rfl rfl ?_)
            refine xo_nil ?_
            refine xq_seq ?_
            refine xc_seq ?_
            refine xc_region ?_
            refine xo_rd (rd_loadB rfl Kn.o2 (by rfl)) rfl ?_
            refine xo_rd (rd_loadB rfl Kn.o1 (by rfl)) rfl ?_
            refine xo_rd (rd_loadB rfl Kn.o0 (by rfl)) rfl ?_
            refine xo_ef rfl (ef_buildL (T := 29) (len := 3) (s := 4) (cells := ([xa, xc, ⟨⟨ct, kd, bd, pd⟩, dp, dc, dl⟩].flatMap Pb.enc).toArray) rfl (by decide) (by decide) (by kernel_rfl) fun r133 => ?_)
            refine xo_rd (rd_assign rfl) rfl ?_
            refine xo_nil ?_
            refine xq_seq ?_
          refine xc_sub (L' := (r133, .cells ([xa, xc, ⟨⟨ct, kd, bd, pd⟩, dp, dc, dl⟩].flatMap Pb.enc).toArray 35 (0, 0)) :: (r11, .cells #[.int .u8 ct, .int .u8 kd, .slice dp bd.length dc, .int .u8 pd] 35 (0, 0)) :: (r9, .cells xc.enc.toArray 35 (0, 0)) :: (r7, .cells xa.enc.toArray 35 (0, 0)) :: (dl ++ (xc.l ++ (xa.l ++ G0)))) (List.Sublist.refl _) ?_
          have Ba : Rs W (dl ++ (xc.l ++ (xa.l ++ G0))) xa.p (ints .u8 xa.q.bd) := SlO.rs hoa (by intro z hz; simp [hz])
          have Bc : Rs W (dl ++ (xc.l ++ (xa.l ++ G0))) xc.p (ints .u8 xc.q.bd) := SlO.rs hoc (by intro z hz; simp [hz])
          have Bd : Rs W (dl ++ (xc.l ++ (xa.l ++ G0))) dp (ints .u8 bd) := SlO.rs hod' (by intro z hz; simp [hz])
          have ka := hoa.cap.2
          have kc := hoc.cap.2
          have kd' : bd.length ≤ dc := hod'.cap.2
          generalize dl ++ (xc.l ++ (xa.l ++ G0)) = G at *
          clear hoa hoc hod hod' R1 R2 R3 o1 o2 o3
          have hP : PbR W ((r133, .cells ([xa, xc, ⟨⟨ct, kd, bd, pd⟩, dp, dc, dl⟩].flatMap Pb.enc).toArray 35 (0, 0)) :: (r11, .cells #[.int .u8 ct, .int .u8 kd, .slice dp bd.length dc, .int .u8 pd] 35 (0, 0)) :: (r9, .cells xc.enc.toArray 35 (0, 0)) :: (r7, .cells xa.enc.toArray 35 (0, 0)) :: G) (some ⟨r133, 0, none⟩) [xa, xc, ⟨⟨ct, kd, bd, pd⟩, dp, dc, dl⟩] := by
            refine ⟨Rs.fresh (List.Mem.head _), fun z hz => ?_, fun z hz => ?_, fun z hz => ?_⟩
            · simp only [List.mem_cons, List.not_mem_nil, or_false] at hz
              rcases hz with rfl | rfl | rfl
              · exact Ba.mono fun y hy => List.mem_append_right [_, _, _, _] hy
              · exact Bc.mono fun y hy => List.mem_append_right [_, _, _, _] hy
              · exact Bd.mono fun y hy => List.mem_append_right [_, _, _, _] hy
            · simp only [List.mem_cons, List.not_mem_nil, or_false] at hz
              rcases hz with rfl | rfl | rfl
              · exact ga
              · exact gc
              · exact gd'
            · simp only [List.mem_cons, List.not_mem_nil, or_false] at hz
              rcases hz with rfl | rfl | rfl
              · omega
              · omega
              · dsimp only; omega
          have hqg : ∀ q, q ∈ [xa, xc, (⟨⟨ct, kd, bd, pd⟩, dp, dc, dl⟩ : Pb)].map Pb.q → q.Rg := fun q hq => by
            obtain ⟨z, hz, rfl⟩ := List.mem_map.1 hq
            exact hP.rg z hz
          obtain ⟨⟨out, eo⟩, hzo⟩ : ∃ w, joinL ([xa, xc, (⟨⟨ct, kd, bd, pd⟩, dp, dc, dl⟩ : Pb)].map Pb.q) = w := ⟨_, rfl⟩
          have hob : ∀ x, x ∈ out → By x := by have := joinL_by hqg; rwa [hzo] at this
          have hol : out.length ≤ 786432 := by
            have : (joinL ([xa, xc, (⟨⟨ct, kd, bd, pd⟩, dp, dc, dl⟩ : Pb)].map Pb.q)).1.length ≤ 3 * 262144 := by
              unfold joinL
              split
              · exact Nat.zero_le _
              · split
                · rename_i h
                  split
                  · exact flat_le h hqg
                  · exact Nat.zero_le _
                · exact Nat.zero_le _
            rw [hzo] at this
            exact this
          have hfew : ∀ ys : List Pb, ys.map Pb.q = [xa, xc, (⟨⟨ct, kd, bd, pd⟩, dp, dc, dl⟩ : Pb)].map Pb.q → ∀ y, y ∈ ys → y.q.bd.length ≤ 1000000 := fun ys hyq y hy => by
            have hm : y.q ∈ [xa, xc, (⟨⟨ct, kd, bd, pd⟩, dp, dc, dl⟩ : Pb)].map Pb.q := by rw [← hyq]; exact List.mem_map_of_mem hy
            obtain ⟨z, hz, he⟩ := List.mem_map.1 hm
            rw [← he]; exact hP.few z hz
          focus
            refine xc_seq ?_
            refine xc_region ?_
            refine xo_rd (rd_move rfl) rfl ?_
            refine xo_ef rfl (ef_call rfl (XF.mono (xf_rtcps (some ⟨r133, 0, none⟩) 3 3 [xa, xc, ⟨⟨ct, kd, bd, pd⟩, dp, dc, dl⟩] rfl hP (by decide)) ?_))
            rintro v L' ⟨ys, sy, ky, ly, rfl, hyq, hyo, hys, rfl⟩
            refine xo_perm (perm_q4 ly (bls ys) G) ?_
            refine xo_ef rfl (ef_call rfl (XF.mono (xf_rjoin2 sy ys.length ky ys out eo (by rw [hyq]; exact hzo) rfl ((PbR.own (R := []) hys hyo (fun y hy => hqg y.q (by rw [← hyq]; exact List.mem_map_of_mem hy)) (hfew ys hyq)).mono fun z hz => by simp only [List.mem_append, List.not_mem_nil, or_false] at hz; simp only [List.mem_cons, List.mem_append]; rcases hz with h | h <;> simp [h]) (by have := congrArg List.length hyq; simp at this; omega)) ?_))
            rintro v L' ⟨so', ko, lo, rfl, hOo, rfl⟩
            refine xo_seg [_, _, _, _] lo _ ?_
            refine xo_rd (rd_move rfl) rfl ?_
            refine xo_rd (rd_extract rfl rfl) rfl ?_
            refine xo_rd (rd_extract rfl rfl) rfl ?_
            refine xo_rd (rd_assign rfl) rfl ?_
            refine xo_rd (rd_assign rfl) rfl ?_
            refine xo_nil ?_
            refine xq_seq ?_
          refine xc_sub (L' := (r133, .cells ([xa, xc, ⟨⟨ct, kd, bd, pd⟩, dp, dc, dl⟩].flatMap Pb.enc).toArray 35 (0, 0)) :: (r11, .cells #[.int .u8 ct, .int .u8 kd, .slice dp bd.length dc, .int .u8 pd] 35 (0, 0)) :: (r9, .cells xc.enc.toArray 35 (0, 0)) :: (r7, .cells xa.enc.toArray 35 (0, 0)) :: (lo ++ (ly ++ (bls ys ++ G)))) (List.Sublist.refl _) ?_
          have hOr : Rs W (lo ++ (ly ++ (bls ys ++ G))) so' (ints .u8 out) := SlO.rs hOo (by intro z hz; simp [hz])
          have hko := hOo.cap.2
          have hGm : ∀ z, z ∈ G → z ∈ lo ++ (ly ++ (bls ys ++ G)) := fun z hz => List.mem_append_right _ (List.mem_append_right _ (List.mem_append_right _ hz))
          have Ba2 := Ba.mono hGm
          have Bc2 := Bc.mono hGm
          have Bd2 := Bd.mono hGm
          have hP2 : PbR W ((r133, .cells ([xa, xc, ⟨⟨ct, kd, bd, pd⟩, dp, dc, dl⟩].flatMap Pb.enc).toArray 35 (0, 0)) :: (r11, .cells #[.int .u8 ct, .int .u8 kd, .slice dp bd.length dc, .int .u8 pd] 35 (0, 0)) :: (r9, .cells xc.enc.toArray 35 (0, 0)) :: (r7, .cells xa.enc.toArray 35 (0, 0)) :: (lo ++ (ly ++ (bls ys ++ G)))) (some ⟨r133, 0, none⟩) [xa, xc, ⟨⟨ct, kd, bd, pd⟩, dp, dc, dl⟩] := hP.mono fun z hz => by
            rcases List.mem_append.1 (show z ∈ [_, _, _, _] ++ G from hz) with h | h
            · exact List.mem_append_left _ h
            · exact List.mem_append_right [_, _, _, _] (hGm z h)
          clear hP Ba Bc Bd hOo hys
          generalize lo ++ (ly ++ (bls ys ++ G)) = G2 at *
          focus
            refine xc_seq ?_
            refine xc_seq ?_
            refine xc_region ?_
            refine xo_rd (rd_move rfl) rfl ?_
            refine xo_ef rfl (ef_call rfl (XF.mono (xk_joins (some ⟨r133, 0, none⟩) 3 3 [xa, xc, ⟨⟨ct, kd, bd, pd⟩, dp, dc, dl⟩] rfl hP2 (by decide)) ?_))
            rintro v L' ⟨rfl, rfl⟩
            refine xo_rd (rd_not rfl) rfl ?_
            refine xo_rd (rd_move rfl) rfl ?_
            refine xo_grd rfl rfl (rd_move rfl) rfl ?_
            refine xo_grd rfl rfl (rd_move rfl) rfl ?_
            refine xo_gef rfl rfl rfl (ef_call rfl (XF.mono (xk_back (some ⟨r133, 0, none⟩) 3 3 [xa, xc, ⟨⟨ct, kd, bd, pd⟩, dp, dc, dl⟩] rfl hP2 (by decide) so' out.length ko out rfl (hOr.mono (by intro z hz; simp [hz])) hob hko (by omega)) ?_))
            rintro v L' ⟨rfl, rfl⟩
            refine xo_grd rfl rfl (rd_not rfl) rfl ?_
            refine xo_rd (rd_pickf rfl rfl) rfl ?_
            refine xo_rd (rd_move rfl) rfl ?_
            refine xo_grd rfl rfl (rd_loadB rfl Kn.o3 (by rfl)) rfl ?_
            refine xo_gef rfl rfl rfl (ef_call rfl (XF.mono (xk_tellsP xa (Ba2.mono (by intro z hz; simp [hz])) ga ka (by omega)) ?_))
            rintro v L' ⟨rfl, rfl⟩
            refine xo_grd rfl rfl (rd_not rfl) rfl ?_
            refine xo_rd (rd_pickf rfl rfl) rfl ?_
            refine xo_rd (rd_move rfl) rfl ?_
            refine xo_grd rfl rfl (rd_loadB rfl Kn.o2 (by rfl)) rfl ?_
            refine xo_gef rfl rfl rfl (ef_call rfl (XF.mono (xk_tellsP xc (Bc2.mono (by intro z hz; simp [hz])) gc kc (by omega)) ?_))
            rintro v L' ⟨rfl, rfl⟩
            refine xo_grd rfl rfl (rd_not rfl) rfl ?_
            refine xo_rd (rd_pickf rfl rfl) rfl ?_
            refine xo_rd (rd_move rfl) rfl ?_
            refine xo_grd rfl rfl (rd_loadB rfl Kn.o1 (by rfl)) rfl ?_
            refine xo_gef rfl rfl rfl (ef_call rfl (XF.mono (xk_tellsP ⟨⟨ct, kd, bd, pd⟩, dp, dc, dl⟩ (Bd2.mono (by intro z hz; simp [hz])) gd' kd' (by dsimp only; omega)) ?_))
            rintro v L' ⟨rfl, rfl⟩
            refine xo_grd rfl rfl (rd_not rfl) rfl ?_
            refine xo_rd (rd_pickf rfl rfl) rfl ?_
            refine xo_nil ?_
            refine xq_seq ?_
            refine xc_condf rfl ?_
            refine xc_skip ?_
            refine xq_seq ?_
          refine xc_join (ι := Unit) (fun _ => True) (fun _ => (r133, .cells ([xa, xc, ⟨⟨ct, kd, bd, pd⟩, dp, dc, dl⟩].flatMap Pb.enc).toArray 35 (0, 0)) :: (r11, .cells #[.int .u8 ct, .int .u8 kd, .slice dp bd.length dc, .int .u8 pd] 35 (0, 0)) :: (r9, .cells xc.enc.toArray 35 (0, 0)) :: (r7, .cells xa.enc.toArray 35 (0, 0)) :: G2) (fun _ => [(1, .int .i64 i), (11, .pointer (some ⟨r11, 0, none⟩))]) ?_ ?_
          · focus
              refine xc_seq ?_
              refine xc_region ?_
              refine xo_rd (rd_assign rfl) rfl ?_
              refine xo_nil ?_
              refine xq_seq ?_
              refine xc_block ?_
            refine xc_loopK (ι := Nat) (fun j => j ≤ out.length + 1) (fun j => out.length + 1 - j) (fun j => [(1, .int .i64 i), (11, .pointer (some ⟨r11, 0, none⟩)), (14, .slice so' out.length ko), (16, .int .i64 j)]) 0 (Nat.zero_le _) (by repeat (first | exact keep_nil | refine keep_cons rfl ?_)) ?_
            intro j hj
            by_cases hj2 : j ≤ out.length
            · skip
              focus
                refine xc_seq ?_
                refine xc_seq ?_
                refine xc_region ?_
                refine xo_rd (rd_move rfl) rfl ?_
                refine xo_rd (rd_move rfl) rfl ?_
                refine xo_rd (rd_len rfl) rfl ?_
                refine xo_rd (rd_leq rfl rfl) rfl ?_
                refine xo_nil ?_
                refine xq_seq ?_
                refine xc_dec rfl (fun hw1 => ?_) (fun hw1 => (by exfalso; omega))
                refine xc_skip ?_
                refine xq_seq ?_
                refine xc_seq ?_
                refine xc_block ?_
                refine xc_seq ?_
                refine xc_region ?_
                refine xo_rd (rd_move rfl) rfl ?_
                refine xo_ef rfl (ef_call rfl (XF.mono (xf_own so' out.length ko (ints .u8 out) (by rw [ints_len, Nat.mul_one]) (hOr.mono (by intro z hz; simp [hz])) (ints_one _ _) (by omega)) ?_))
                rintro v L' ⟨po, co, l, rfl, hOd, hco, rfl⟩
                refine xo_rd (rd_assign rfl) rfl ?_
                refine xo_nil ?_
                refine xq_seq ?_
              refine xc_join (ι := List Int × List Blk) (fun s => s.1.length = out.length ∧ (∀ x, x ∈ s.1 → By x) ∧ SlO 1 5 (.slice po out.length co) out.length (ints .u8 s.1) s.2) (fun s => s.2 ++ ((r133, .cells ([xa, xc, ⟨⟨ct, kd, bd, pd⟩, dp, dc, dl⟩].flatMap Pb.enc).toArray 35 (0, 0)) :: (r11, .cells #[.int .u8 ct, .int .u8 kd, .slice dp bd.length dc, .int .u8 pd] 35 (0, 0)) :: (r9, .cells xc.enc.toArray 35 (0, 0)) :: (r7, .cells xa.enc.toArray 35 (0, 0)) :: G2)) (fun _ => [(1, .int .i64 i), (11, .pointer (some ⟨r11, 0, none⟩)), (14, .slice so' out.length ko), (16, .int .i64 j), (17, .slice po out.length co)]) ?_ ?_
              · by_cases hi2 : j < out.length
                · obtain ⟨b, o', hpo, hc⟩ := (hOd.rs (by intro z hz; simp [hz]) : Rs W (l ++ ((r133, .cells ([xa, xc, ⟨⟨ct, kd, bd, pd⟩, dp, dc, dl⟩].flatMap Pb.enc).toArray 35 (0, 0)) :: (r11, .cells #[.int .u8 ct, .int .u8 kd, .slice dp bd.length dc, .int .u8 pd] 35 (0, 0)) :: (r9, .cells xc.enc.toArray 35 (0, 0)) :: (r7, .cells xa.enc.toArray 35 (0, 0)) :: G2)) po (ints .u8 out)).int (i := j) (by omega)
                  subst hpo
                  generalize hv : out[j] = v at hc
                  obtain ⟨sh, hsh⟩ : ∃ z, z = IntKind.u8.wrap (1 * 2 ^ Int.toNat ((i : Int) % 8)) := ⟨_, rfl⟩
                  focus
                    refine xc_seq ?_
                    refine xc_region ?_
                    refine xo_rd (rd_move rfl) rfl ?_
                    refine xo_rd (rd_move rfl) rfl ?_
                    refine xo_rd (rd_len rfl) rfl ?_
                    refine xo_rd (rd_lss rfl rfl) rfl ?_
                    refine xo_nil ?_
                    refine xq_seq ?_
                    refine xc_dec rfl (fun h1 => ?_) (fun h1 => (by exfalso; omega))
                    refine xc_drawM [0, 0, 0, 0, 12, 16, 0, 64, 128, 288, 1023, 2047] [0, 0, 0, 0, 12, 16, 0, 64, 128, 288, 1023, 2047] [] (by kernel_rfl) (by kernel_rfl) (by kernel_rfl) ?_
                    refine xm_take 0 (m' := 1) rfl (by kernel_rfl) (by first | exact Sb.refl | exact Sb.nil | (repeat (first | exact Sb.nil | exact Sb.refl | exact Sb.app0 | apply Sb.keep | apply Sb.keepApp | apply Sb.cons | apply Sb.app))) (rd_move rfl) rfl (by kernel_rfl) ?_
                    refine xm_take 1 (m' := 3) rfl (by kernel_rfl) (by first | exact Sb.refl | exact Sb.nil | (repeat (first | exact Sb.nil | exact Sb.refl | exact Sb.app0 | apply Sb.keep | apply Sb.keepApp | apply Sb.cons | apply Sb.app))) (rd_move rfl) rfl (by kernel_rfl) ?_
                    refine xm_take 2 (m' := 7) rfl (by kernel_rfl) (by first | exact Sb.refl | exact Sb.nil | (repeat (first | exact Sb.nil | exact Sb.refl | exact Sb.app0 | apply Sb.keep | apply Sb.keepApp | apply Sb.cons | apply Sb.app))) (rd_move rfl) rfl (by kernel_rfl) ?_
                    refine xm_take 3 (m' := 15) rfl (by kernel_rfl) (by first | exact Sb.refl | exact Sb.nil | (repeat (first | exact Sb.nil | exact Sb.refl | exact Sb.app0 | apply Sb.keep | apply Sb.keepApp | apply Sb.cons | apply Sb.app))) (rd_move rfl) rfl (by kernel_rfl) ?_
                    refine xm_take 4 (m' := 31) rfl (by kernel_rfl) (by first | exact Sb.refl | exact Sb.nil | (repeat (first | exact Sb.nil | exact Sb.refl | exact Sb.app0 | apply Sb.keep | apply Sb.keepApp | apply Sb.cons | apply Sb.app))) (rd_indexAddr rfl rfl (by omega) (by omega)) rfl (by kernel_rfl) ?_
                    refine xm_take 6 (m' := 95) rfl (by kernel_rfl) (by first | exact Sb.refl | exact Sb.nil | (repeat (first | exact Sb.nil | exact Sb.refl | exact Sb.app0 | apply Sb.keep | apply Sb.keepApp | apply Sb.cons | apply Sb.app))) (rd_move rfl) rfl (by kernel_rfl) ?_
                    refine xm_take 7 (m' := 223) rfl (by kernel_rfl) (by first | exact Sb.refl | exact Sb.nil | (repeat (first | exact Sb.nil | exact Sb.refl | exact Sb.app0 | apply Sb.keep | apply Sb.keepApp | apply Sb.cons | apply Sb.app))) (rd_remn rfl rfl (by omega) (by omega)) rfl (by kernel_rfl) ?_
                    refine xm_take 8 (m' := 479) rfl (by kernel_rfl) (by first | exact Sb.refl | exact Sb.nil | (repeat (first | exact Sb.nil | exact Sb.refl | exact Sb.app0 | apply Sb.keep | apply Sb.keepApp | apply Sb.cons | apply Sb.app))) (rd_cast (v' := .int .u8 sh) (rd_shl rfl rfl (by omega) (by simp [IntKind.bits]; omega)) (congrArg (Value.int .u8) hsh.symm)) rfl (by kernel_rfl) ?_
                    refine xm_one 5 (m' := 511) rfl (by kernel_rfl) rfl (by kernel_rfl) (ef_rd (rd_load1 rfl hc) ?_)
                    refine ⟨(by first | exact Sb.refl | exact Sb.nil | (repeat (first | exact Sb.nil | exact Sb.refl | exact Sb.app0 | apply Sb.keep | apply Sb.keepApp | apply Sb.cons | apply Sb.app))), ?_⟩
                    refine xm_take 9 (m' := 1023) rfl (by kernel_rfl) (by first | exact Sb.refl | exact Sb.nil | (repeat (first | exact Sb.nil | exact Sb.refl | exact Sb.app0 | apply Sb.keep | apply Sb.keepApp | apply Sb.cons | apply Sb.app))) (rd_xor rfl rfl) rfl (by kernel_rfl) ?_
                    refine xm_take 10 (m' := 2047) rfl (by kernel_rfl) (by first | exact Sb.refl | exact Sb.nil | (repeat (first | exact Sb.nil | exact Sb.refl | exact Sb.app0 | apply Sb.keep | apply Sb.keepApp | apply Sb.cons | apply Sb.app))) (rd_indexAddr rfl rfl (by omega) (by omega)) rfl (by kernel_rfl) ?_
                    refine xm_one 11 (m' := 4095) rfl (by kernel_rfl) rfl (by kernel_rfl) (ef_storeElo [] _ (i := j) hOd (by simp [ev, lk, pt]) rfl (by omega) rfl rfl rfl (by decide) rfl fun l' hO' => ?_)
                    refine ⟨(by first | exact Sb.refl | exact Sb.nil | (repeat (first | exact Sb.nil | exact Sb.refl | exact Sb.app0 | apply Sb.keep | apply Sb.keepApp | apply Sb.cons | apply Sb.app))), ?_⟩
                    refine xm_done (by kernel_rfl) ?_
                  refine xq_joined ((out.take j ++ [bits .xor .u8 v sh] ++ out.drop (j + 1), l') : List Int × List Blk) ⟨by simp; omega, ?_, ?_⟩ rfl (by repeat (first | exact keep_nil | refine keep_cons rfl ?_))
                  · intro x hx
                    rcases List.mem_append.1 hx with hx | hx
                    · rcases List.mem_append.1 hx with hx | hx
                      · exact hob x (List.mem_of_mem_take hx)
                      · rw [List.mem_singleton.1 hx]; exact xor8_by _ _
                    · exact hob x (List.mem_of_mem_drop hx)
                  · dsimp only
                    rw [ints_app, ints_app]
                    have := hO'
                    rw [Nat.mul_one, Nat.mul_one] at this
                    unfold ints at this ⊢
                    rw [List.map_take, List.map_drop]
                    exact this
                · focus
                    refine xc_seq ?_
                    refine xc_region ?_
                    refine xo_rd (rd_move rfl) rfl ?_
                    refine xo_rd (rd_move rfl) rfl ?_
                    refine xo_rd (rd_len rfl) rfl ?_
                    refine xo_rd (rd_lss rfl rfl) rfl ?_
                    refine xo_nil ?_
                    refine xq_seq ?_
                    refine xc_dec rfl (fun hw1 => (by exfalso; omega)) (fun hw1 => ?_)
                    refine xc_skip ?_
                  exact xq_joined ((out, l) : List Int × List Blk) ⟨rfl, hob, hOd⟩ rfl (by repeat (first | exact keep_nil | refine keep_cons rfl ?_))
              · rintro ⟨zs, l'⟩ ⟨hyl, hyb, hOy⟩
                dsimp only at hyl hyb hOy ⊢
                focus
                  refine xc_seq ?_
                  refine xc_region ?_
                  refine xo_rd (rd_move rfl) rfl ?_
                  refine xo_rd (rd_move rfl) rfl ?_
                  refine xo_rd (rd_slHi rfl rfl (by omega) (by omega)) rfl ?_
                  refine xo_ef rfl (ef_call rfl (XF.mono (xk_splits so' j ko (out.take j) (by simp; omega) ((hOr.ints_take j).mono (by intro z hz; simp [hz])) (By.take hob j) (by omega) (by omega)) ?_))
                  rintro v L' ⟨rfl, rfl⟩
                  refine xo_rd (rd_not rfl) rfl ?_
                  refine xo_rd (rd_move rfl) rfl ?_
                  refine xo_grd rfl rfl (rd_move rfl) rfl ?_
                  refine xo_gef rfl rfl rfl (ef_call rfl (XF.mono (xk_splits po out.length co zs hyl (hOy.rs (by intro z hz; simp [hz])) hyb hOy.cap.2 (by omega)) ?_))
                  rintro v L' ⟨rfl, rfl⟩
                  refine xo_grd rfl rfl (rd_not rfl) rfl ?_
                  refine xo_rd (rd_pickf rfl rfl) rfl ?_
                  refine xo_rd (rd_move rfl) rfl ?_
                  refine xo_grd rfl rfl (rd_move rfl) rfl ?_
                  refine xo_gef rfl rfl rfl (ef_call rfl (XF.mono (xk_back none 0 0 [] rfl PbR.nil (by decide) po out.length co zs hyl (hOy.rs (by intro z hz; simp [hz])) hyb hOy.cap.2 (by omega)) ?_))
                  rintro v L' ⟨rfl, rfl⟩
                  refine xo_grd rfl rfl (rd_not rfl) rfl ?_
                  refine xo_rd (rd_pickf rfl rfl) rfl ?_
                  refine xo_nil ?_
                  refine xq_seq ?_
                  refine xc_condf rfl ?_
                  refine xc_skip ?_
                  refine xq_block ?_
                  refine xq_seq ?_
                  refine xc_region ?_
                  refine xo_rd (rd_move rfl) rfl ?_
                  refine xo_rd (rd_addn rfl rfl (by omega) (by omega)) rfl ?_
                  refine xo_rd (rd_assign rfl) rfl ?_
                  refine xo_nil ?_
                exact xq_roundK rfl (j + 1) (by omega) (by omega) (List.sublist_append_right _ _) (by repeat (first | exact keep_nil | refine keep_cons rfl ?_))
            · skip
              focus
                refine xc_seq ?_
                refine xc_seq ?_
                refine xc_region ?_
                refine xo_rd (rd_move rfl) rfl ?_
                refine xo_rd (rd_move rfl) rfl ?_
                refine xo_rd (rd_len rfl) rfl ?_
                refine xo_rd (rd_leq rfl rfl) rfl ?_
                refine xo_nil ?_
                refine xq_seq ?_
                refine xc_dec rfl (fun hw1 => (by exfalso; omega)) (fun hw1 => ?_)
                refine xc_exit ?_
                refine xq_then_exit ?_
                refine xq_then_exit ?_
                refine xq_block_hit ?_
              exact xq_joined () trivial rfl (by repeat (first | exact keep_nil | refine keep_cons rfl ?_))
          · rintro _ _
            focus
              refine xc_seq ?_
              refine xc_region ?_
              refine xo_rd (rd_assign rfl) rfl ?_
              refine xo_nil ?_
              refine xq_seq ?_
              refine xc_block ?_
            refine xc_loopK (ι := Nat) (fun j => j ≤ bd.length) (fun j => bd.length - j) (fun j => [(1, .int .i64 i), (11, .pointer (some ⟨r11, 0, none⟩)), (18, .int .i64 j)]) 0 (Nat.zero_le _) (by repeat (first | exact keep_nil | refine keep_cons rfl ?_)) ?_
            intro j hj
            by_cases hj2 : j < bd.length
            · skip
              focus
                refine xc_seq ?_
                refine xc_seq ?_
                refine xc_region ?_
                refine xo_rd (rd_move rfl) rfl ?_
                refine xo_rd (rd_fieldAddr rfl) rfl ?_
                refine xo_rd (rd_load1 rfl (Cl.o1 rfl)) rfl ?_
                refine xo_rd (rd_len rfl) rfl ?_
                refine xo_rd (rd_lss rfl rfl) rfl ?_
                refine xo_nil ?_
                refine xq_seq ?_
                refine xc_dec rfl (fun hw1 => ?_) (fun hw1 => (by exfalso; omega))
                refine xc_skip ?_
                refine xq_seq ?_
                refine xc_seq ?_
                refine xc_block ?_
                refine xc_seq ?_
                refine xc_region ?_
                refine xo_rd (rd_fieldAddr rfl) rfl ?_
                refine xo_rd (rd_load1 rfl (Cl.o1 rfl)) rfl ?_
                refine xo_ef rfl (ef_call rfl (XF.mono (xf_own dp bd.length dc (ints .u8 bd) (by rw [ints_len, Nat.mul_one]) (Bd2.mono (by intro z hz; simp [hz])) (ints_one _ _) (by omega)) ?_))
                rintro v L' ⟨po, co, l, rfl, hOd, hco, rfl⟩
                refine xo_rd (rd_assign rfl) rfl ?_
                refine xo_nil ?_
                refine xq_seq ?_
              obtain ⟨b, o', hpo, _⟩ := (hOd.rs (by intro z hz; simp [hz]) : Rs W (l ++ ((r133, .cells ([xa, xc, ⟨⟨ct, kd, bd, pd⟩, dp, dc, dl⟩].flatMap Pb.enc).toArray 35 (0, 0)) :: (r11, .cells #[.int .u8 ct, .int .u8 kd, .slice dp bd.length dc, .int .u8 pd] 35 (0, 0)) :: (r9, .cells xc.enc.toArray 35 (0, 0)) :: (r7, .cells xa.enc.toArray 35 (0, 0)) :: G2)) po (ints .u8 bd)).int (i := j) (by omega)
              subst hpo
              have hct := gd.ct
              have hkd := gd.kd
              have hbdB := gd.bd
              dsimp only at hct hkd hbdB
              have hzl : (bd.take j ++ [(i : Int)] ++ bd.drop (j + 1)).length = bd.length := by simp; omega
              have hzb : ∀ x, x ∈ bd.take j ++ [(i : Int)] ++ bd.drop (j + 1) → By x := fun x hx => by
                rcases List.mem_append.1 hx with hx | hx
                · rcases List.mem_append.1 hx with hx | hx
                  · exact hbdB x (List.mem_of_mem_take hx)
                  · rw [List.mem_singleton.1 hx]; unfold By; omega
                · exact hbdB x (List.mem_of_mem_drop hx)
              have hzO : ∀ l', SlO 1 5 (.slice (some ⟨b, o', none⟩) bd.length co) bd.length ((ints .u8 bd).take (j * 1) ++ (Value.int .u8 i).cells.toList ++ (ints .u8 bd).drop ((j + 1) * 1)) l' → SlO 1 5 (.slice (some ⟨b, o', none⟩) bd.length co) bd.length (ints .u8 (bd.take j ++ [(i : Int)] ++ bd.drop (j + 1))) l' := fun l' h => by
                rw [ints_app, ints_app]
                rw [Nat.mul_one, Nat.mul_one] at h
                unfold ints at h ⊢
                rw [List.map_take, List.map_drop]
                exact h
              generalize bd.take j ++ [(i : Int)] ++ bd.drop (j + 1) = zs at *
              have hld : ∀ A, Cl W (A ++ ((r133, .cells ([xa, xc, ⟨⟨ct, kd, bd, pd⟩, dp, dc, dl⟩].flatMap Pb.enc).toArray 35 (0, 0)) :: (r11, .cells #[.int .u8 ct, .int .u8 kd, .slice dp bd.length dc, .int .u8 pd] 35 (0, 0)) :: (r9, .cells xc.enc.toArray 35 (0, 0)) :: (r7, .cells xa.enc.toArray 35 (0, 0)) :: G2)) r11 (0 + 0) (.int .u8 ct) := fun A => Cl.own (cs := #[.int .u8 ct, .int .u8 kd, .slice dp bd.length dc, .int .u8 pd]) (List.mem_append_right _ (List.Mem.tail _ (List.Mem.head _))) rfl
              focus
                refine xc_seq ?_
                refine xc_region ?_
                refine xo_rd (rd_move rfl) rfl ?_
                refine xo_rd (rd_move rfl) rfl ?_
                refine xo_rd (rd_move rfl) rfl ?_
                refine xo_rd (rd_convn rfl (by omega) (by omega)) rfl ?_
                refine xo_rd (rd_indexAddr rfl rfl (by omega) (by omega)) rfl ?_
                refine xo_ef rfl (ef_storeElo [] _ (i := j) hOd (by simp [ev, lk, pt]) rfl (by omega) rfl rfl rfl (by decide) rfl fun l' hO' => ?_)
                refine xo_nil ?_
                refine xq_seq ?_
                refine xc_seq ?_
                refine xc_region ?_
                refine xo_rd (rd_fieldAddr rfl) rfl ?_
                refine xo_rd (rd_load1 rfl (hld l')) rfl ?_
                refine xo_rd (rd_move rfl) rfl ?_
                refine xo_rd (rd_build rfl rfl rfl) rfl ?_
                refine xo_ef rfl (ef_call rfl (XF.mono (xk_tells ⟨ct, 203, zs, 0⟩ (some ⟨b, o', none⟩) bd.length co hzl ((hzO _ hO').rs (by intro z hz; simp [hz])) ⟨hct, (show By 203 from ⟨by decide, by decide⟩), hzb, (show By 0 from ⟨by decide, by decide⟩)⟩ (by omega) (by omega)) ?_))
                rintro v L' ⟨rfl, rfl⟩
                refine xo_rd (rd_not rfl) rfl ?_
                refine xo_rd (rd_move rfl) rfl ?_
                refine xo_grd rfl rfl (rd_fieldAddr rfl) rfl ?_
                refine xo_grd rfl rfl (rd_load1 rfl (hld l')) rfl ?_
                refine xo_grd rfl rfl (rd_move rfl) rfl ?_
                refine xo_grd rfl rfl (rd_build rfl rfl rfl) rfl ?_
                refine xo_gef rfl rfl rfl (ef_call rfl (XF.mono (xk_tells ⟨ct, 202, zs, 0⟩ (some ⟨b, o', none⟩) bd.length co hzl ((hzO _ hO').rs (by intro z hz; simp [hz])) ⟨hct, (show By 202 from ⟨by decide, by decide⟩), hzb, (show By 0 from ⟨by decide, by decide⟩)⟩ (by omega) (by omega)) ?_))
                rintro v L' ⟨rfl, rfl⟩
                refine xo_grd rfl rfl (rd_not rfl) rfl ?_
                refine xo_rd (rd_pickf rfl rfl) rfl ?_
                refine xo_rd (rd_move rfl) rfl ?_
                refine xo_grd rfl rfl (rd_move rfl) rfl ?_
                refine xo_grd rfl rfl (rd_convn rfl (by omega) (by omega)) rfl ?_
                refine xo_grd rfl rfl (rd_move rfl) rfl ?_
                refine xo_grd rfl rfl (rd_move rfl) rfl ?_
                refine xo_grd rfl rfl (rd_sliceHi rfl rfl (by omega) (by omega)) rfl ?_
                refine xo_grd rfl rfl (rd_build rfl rfl rfl) rfl ?_
                refine xo_gef rfl rfl rfl (ef_call rfl (XF.mono (xk_tells ⟨i, 203, zs.take j, 0⟩ (some ⟨b, o', none⟩) j co (by dsimp only; rw [List.length_take]; omega) (((hzO _ hO').rs (by intro z hz; simp [hz])).ints_take j) ⟨(by unfold By; dsimp only; omega), (show By 203 from ⟨by decide, by decide⟩), fun x hx => hzb x (List.mem_of_mem_take hx), (show By 0 from ⟨by decide, by decide⟩)⟩ (by omega) (by omega)) ?_))
                rintro v L' ⟨rfl, rfl⟩
                refine xo_grd rfl rfl (rd_not rfl) rfl ?_
                refine xo_rd (rd_pickf rfl rfl) rfl ?_
                refine xo_nil ?_
                refine xq_seq ?_
                refine xc_condf rfl ?_
                refine xc_skip ?_
                refine xq_block ?_
                refine xq_seq ?_
                refine xc_region ?_
                refine xo_rd (rd_move rfl) rfl ?_
                refine xo_rd (rd_addn rfl rfl (by omega) (by omega)) rfl ?_
                refine xo_rd (rd_assign rfl) rfl ?_
                refine xo_nil ?_
              exact xq_roundK rfl (j + 1) (by omega) (by omega) (List.sublist_append_right _ _) (by repeat (first | exact keep_nil | refine keep_cons rfl ?_))
            · focus
                refine xc_seq ?_
                refine xc_seq ?_
                refine xc_region ?_
                refine xo_rd (rd_move rfl) rfl ?_
                refine xo_rd (rd_fieldAddr rfl) rfl ?_
                refine xo_rd (rd_load1 rfl (Cl.o1 rfl)) rfl ?_
                refine xo_rd (rd_len rfl) rfl ?_
                refine xo_rd (rd_lss rfl rfl) rfl ?_
                refine xo_nil ?_
                refine xq_seq ?_
                refine xc_dec rfl (fun hw1 => (by exfalso; omega)) (fun hw1 => ?_)
                refine xc_exit ?_
                refine xq_then_exit ?_
                refine xq_then_exit ?_
                refine xq_block_hit ?_
                refine xq_block ?_
                refine xq_seq ?_
                refine xc_region ?_
                refine xo_rd (rd_move rfl) rfl ?_
                refine xo_rd (rd_addn rfl rfl (by omega) (by omega)) rfl ?_
                refine xo_rd (rd_assign rfl) rfl ?_
                refine xo_nil ?_
              exact xq_sub (List.nil_sublist _) (xq_roundI (i + 1) (by omega) (by omega) rfl (by repeat (first | exact keep_nil | refine keep_cons rfl ?_)))
    · focus
        refine xc_seq ?_
        refine xc_seq ?_
        refine xc_region ?_
        refine xo_rd (rd_move rfl) rfl ?_
        refine xo_rd (rd_lss rfl rfl) rfl ?_
        refine xo_nil ?_
        refine xq_seq ?_
        refine xc_dec rfl (fun h1 => (by exfalso; omega)) (fun h1 => ?_)
        refine xc_exit ?_
        refine xq_then_exit ?_
        refine xq_then_exit ?_
        refine xq_block_hit ?_
      exact xq_joined () trivial rfl (by repeat (first | exact keep_nil | refine keep_cons rfl ?_))
  · rintro _ _
    focus
      refine xc_seq ?_
      refine xc_region ?_
      refine xo_ef rfl (ef_buildL (T := 22) (len := 16) (s := 1) (cells := (ints .u8 [0, 0, 0, 1, 2, 1, 120, 1, 2, 97, 98, 1, 1, 99, 0, 9]).toArray) rfl (by decide) (by decide) (by kernel_rfl) fun r241 => ?_)
      refine xo_rd (rd_assign rfl) rfl ?_
      refine xo_nil ?_
      refine xq_seq ?_
    obtain ⟨sd, hsd, hsl, hsb⟩ : ∃ sd : List Int, [0, 0, 0, 1, 2, 1, 120, 1, 2, 97, 98, 1, 1, 99, 0, 9] = sd ∧ sd.length = 16 ∧ ∀ x, x ∈ sd → By x := ⟨_, rfl, rfl, by unfold By; decide⟩
    rw [hsd]
    clear hsd
    have hsR : ∀ A, Rs W (A ++ [(r241, .cells (ints .u8 sd).toArray 5 (0, 0))]) (some ⟨r241, 0, none⟩) (ints .u8 sd) := fun A => Rs.fresh (List.mem_append_right _ (List.Mem.head _))
    refine xc_join (ι := Unit) (fun _ => True) (fun _ => []) (fun _ => []) ?_ ?_
    · focus
        refine xc_seq ?_
        refine xc_region ?_
        refine xo_rd (rd_assign rfl) rfl ?_
        refine xo_nil ?_
        refine xq_seq ?_
        refine xc_block ?_
      refine xc_loopI (ι := Nat) (fun n => n ≤ 17) (fun n => 17 - n) (fun _ => [(r241, .cells (ints .u8 sd).toArray 5 (0, 0))]) (fun n => [(20, .slice (some ⟨r241, 0, none⟩) 16 16), (21, .int .i64 n)]) 0 (Nat.zero_le _) rfl (by repeat (first | exact keep_nil | refine keep_cons rfl ?_)) ?_
      intro n hn
      by_cases h16 : n ≤ 16
      · focus
          refine xc_seq ?_
          refine xc_seq ?_
          refine xc_region ?_
          refine xo_rd (rd_move rfl) rfl ?_
          refine xo_rd (rd_move rfl) rfl ?_
          refine xo_rd (rd_len rfl) rfl ?_
          refine xo_rd (rd_leq rfl rfl) rfl ?_
          refine xo_nil ?_
          refine xq_seq ?_
          refine xc_dec rfl (fun h1 => ?_) (fun h1 => (by exfalso; omega))
          refine xc_skip ?_
          refine xq_seq ?_
          refine xc_seq ?_
          refine xc_block ?_
          refine xc_seq ?_
          refine xc_region ?_
          refine xo_rd (rd_assign rfl) rfl ?_
          refine xo_nil ?_
          refine xq_seq ?_
          refine xc_block ?_
        refine xc_loopK (ι := Nat) (fun c => c ≤ 3) (fun c => 3 - c) (fun c => [(20, .slice (some ⟨r241, 0, none⟩) 16 16), (21, .int .i64 n), (22, .int .u8 c)]) 0 (Nat.zero_le _) (by repeat (first | exact keep_nil | refine keep_cons rfl ?_)) ?_
        intro c hc
        by_cases hc3 : c < 3
        · have hcB : By (c : Int) := by unfold By; omega
          have hT : ∀ q k l, SlO 1 5 (.slice q (n + 16) k) (n + 16) (ints .u8 (sd.take n) ++ ints .u8 sd) l → SlO 1 5 (.slice q (n + 16) k) (n + 16) (ints .u8 (sd.take n ++ sd)) l := fun _ _ _ h => by rw [ints_app]; exact h
          have hby2 : ∀ x, x ∈ sd.take n ++ sd → By x := fun x hx => by
            rcases List.mem_append.1 hx with h | h
            · exact hsb x (List.mem_of_mem_take h)
            · exact hsb x h
          focus
            refine xc_seq ?_
            refine xc_seq ?_
            refine xc_region ?_
            refine xo_rd (rd_move rfl) rfl ?_
            refine xo_rd (rd_lss rfl rfl) rfl ?_
            refine xo_nil ?_
            refine xq_seq ?_
            refine xc_dec rfl (fun hw1 => ?_) (fun hw1 => (by exfalso; omega))
            refine xc_skip ?_
            refine xq_seq ?_
            refine xc_seq ?_
            refine xc_block ?_
            refine xc_seq ?_
            refine xc_region ?_
            refine xo_rd (rd_move rfl) rfl ?_
            refine xo_rd (rd_move rfl) rfl ?_
            refine xo_rd (rd_move rfl) rfl ?_
            refine xo_rd (rd_sliceHi rfl rfl (by omega) (by omega)) rfl ?_
            refine xo_rd (rd_build rfl rfl rfl) rfl ?_
            refine xo_ef rfl (ef_call rfl (XF.mono (xk_tells ⟨c, 202, sd.take n, 0⟩ (some ⟨r241, 0, none⟩) n 16 (by dsimp only; rw [List.length_take]; omega) ((hsR []).ints_take n) ⟨hcB, (show By 202 from ⟨by decide, by decide⟩), fun x hx => hsb x (List.mem_of_mem_take hx), (show By 0 from ⟨by decide, by decide⟩)⟩ h16 (by omega)) ?_))
            rintro v L' ⟨rfl, rfl⟩
            refine xo_rd (rd_not rfl) rfl ?_
            refine xo_rd (rd_move rfl) rfl ?_
            refine xo_grd rfl rfl (rd_move rfl) rfl ?_
            refine xo_grd rfl rfl (rd_move rfl) rfl ?_
            refine xo_grd rfl rfl (rd_move rfl) rfl ?_
            refine xo_grd rfl rfl (rd_move rfl) rfl ?_
            refine xo_grd rfl rfl (rd_sl3Hi rfl rfl rfl (by omega) (by omega) (by omega)) rfl ?_
            refine xo_grd rfl rfl (rd_move rfl) rfl ?_
            refine xo_gef rfl rfl rfl (ef_appendFull (m := n) (k := 16) (xs := ints .u8 (sd.take n)) (news := ints .u8 sd) rfl rfl ((hsR []).ints_take n) (by rw [ints_len, List.length_take]; omega) (hsR []) (by rw [ints_len, hsl]) (ints_one _ _) (by decide) (by decide) (by omega) (by omega) fun q k l hO hk => ?_)
            refine xo_grd rfl rfl (rd_build rfl rfl rfl) rfl ?_
            refine xo_gef rfl rfl rfl (ef_call rfl (XF.mono (xk_tells ⟨c, 200, sd.take n ++ sd, 0⟩ q (n + 16) k (by dsimp only; rw [List.length_append, List.length_take]; omega) ((hT _ _ _ hO).rs (by intro z hz; simp [hz])) ⟨hcB, (show By 200 from ⟨by decide, by decide⟩), hby2, (show By 0 from ⟨by decide, by decide⟩)⟩ hk (by omega)) ?_))
            rintro v L' ⟨rfl, rfl⟩
            refine xo_grd rfl rfl (rd_not rfl) rfl ?_
            refine xo_rd (rd_pickf rfl rfl) rfl ?_
            refine xo_nil ?_
            refine xq_seq ?_
            refine xc_condf rfl ?_
            refine xc_skip ?_
            refine xq_block ?_
            refine xq_seq ?_
            refine xc_region ?_
            refine xo_rd (rd_move rfl) rfl ?_
            refine xo_rd (rd_addn rfl rfl (by omega) (by omega)) rfl ?_
            refine xo_rd (rd_assign rfl) rfl ?_
            refine xo_nil ?_
          exact xq_roundK rfl (c + 1) (by omega) (by omega) (List.sublist_append_right _ _) (by repeat (first | exact keep_nil | refine keep_cons rfl ?_))
        · skip
          focus
            refine xc_seq ?_
            refine xc_seq ?_
            refine xc_region ?_
            refine xo_rd (rd_move rfl) rfl ?_
            refine xo_rd (rd_lss rfl rfl) rfl ?_
            refine xo_nil ?_
            refine xq_seq ?_
            refine xc_dec rfl (fun hw1 => (by exfalso; omega)) (fun hw1 => ?_)
            refine xc_exit ?_
            refine xq_then_exit ?_
            refine xq_then_exit ?_
            refine xq_block_hit ?_
            refine xq_block ?_
            refine xq_seq ?_
            refine xc_region ?_
            refine xo_rd (rd_move rfl) rfl ?_
            refine xo_rd (rd_addn rfl rfl (by omega) (by omega)) rfl ?_
            refine xo_rd (rd_assign rfl) rfl ?_
            refine xo_nil ?_
          exact xq_roundI (n + 1) (by omega) (by omega) rfl (by repeat (first | exact keep_nil | refine keep_cons rfl ?_))
      · focus
          refine xc_seq ?_
          refine xc_seq ?_
          refine xc_region ?_
          refine xo_rd (rd_move rfl) rfl ?_
          refine xo_rd (rd_move rfl) rfl ?_
          refine xo_rd (rd_len rfl) rfl ?_
          refine xo_rd (rd_leq rfl rfl) rfl ?_
          refine xo_nil ?_
          refine xq_seq ?_
          refine xc_dec rfl (fun hw1 => (by exfalso; omega)) (fun hw1 => ?_)
          refine xc_exit ?_
          refine xq_then_exit ?_
          refine xq_then_exit ?_
          refine xq_block_hit ?_
        exact xq_sub (List.nil_sublist _) (xq_joined () trivial rfl (by repeat (first | exact keep_nil | refine keep_cons rfl ?_)))
    · rintro _ _
      clear hsR hsb hsl sd
      obtain ⟨zs, hzs, hzl⟩ : ∃ zs : List Int, zs = List.replicate 256 0 ∧ zs.length = 256 := ⟨_, rfl, List.length_replicate ..⟩
      obtain ⟨lg, hlg, hls⟩ : ∃ lg, strOfNums zs = lg ∧ lg.size = 256 := ⟨_, rfl, by rw [strOfNums_size, hzl]⟩
      focus
        refine xc_seq ?_
        refine xc_region ?_
        refine xo_ef rfl (ef_makeSlice rfl rfl rfl (by omega) (by omega) (by omega) (by decide) fun r271 => ?_)
        refine xo_rd (rd_cast (v' := .string lg) (rd_convStr (bs := zs) (by rw [hzs, ints_rep]; exact Rs.fresh (List.Mem.head _)) rfl hzl) (congrArg Value.string hlg)) rfl ?_
        refine xo_rd (rd_assign rfl) rfl ?_
        refine xo_nil ?_
        refine xq_seq ?_
      refine xc_sub (L' := []) (List.nil_sublist _) ?_
      clear hlg hzs hzl zs
      focus
        refine xc_seq ?_
        refine xc_region ?_
        refine xo_rd (rd_build rfl rfl rfl) rfl ?_
        refine xo_ef rfl (ef_buildL (T := 22) (len := 1) (s := 1) (cells := (ints .u8 [1]).toArray) rfl (by decide) (by decide) (by kernel_rfl) fun r274 => ?_)
        refine xo_rd (rd_build rfl rfl rfl) rfl ?_
        refine xo_rd (rd_build rfl rfl rfl) rfl ?_
        refine xo_rd (rd_build rfl rfl rfl) rfl ?_
        refine xo_rd (rd_build rfl rfl rfl) rfl ?_
        refine xo_rd (rd_build rfl rfl rfl) rfl ?_
        refine xo_ef rfl (ef_buildL (T := 29) (len := 6) (s := 4) (cells := ((badL r274).flatMap Pb.enc).toArray) rfl (by decide) (by decide) (by kernel_rfl) fun r280 => ?_)
        refine xo_rd (rd_assign rfl) rfl ?_
        refine xo_nil ?_
        refine xq_seq ?_
      obtain ⟨bads, hbads⟩ : ∃ bads, badL r274 = bads := ⟨_, rfl⟩
      have hbl : bads.length = 6 := by rw [← hbads]; rfl
      have hbo : ∀ x, x ∈ bads → BadOk W [(r280, .cells ((badL r274).flatMap Pb.enc).toArray 35 (0, 0)), (r274, .cells (ints .u8 [1]).toArray 5 (0, 0))] x := by rw [← hbads]; exact badL_ok (List.Mem.tail _ (List.Mem.head _))
      rw [hbads] at hbo ⊢
      clear hbads
      have hbR : Rs W [(r280, .cells (bads.flatMap Pb.enc).toArray 35 (0, 0)), (r274, .cells (ints .u8 [1]).toArray 5 (0, 0))] (some ⟨r280, 0, none⟩) (bads.flatMap Pb.enc) := Rs.fresh (List.Mem.head _)
      refine xc_join (ι := Unit) (fun _ => True) (fun _ => []) (fun _ => [(23, .string lg)]) ?_ ?_
      · focus
          refine xc_seq ?_
          refine xc_region ?_
          refine xo_rd (rd_assign rfl) rfl ?_
          refine xo_nil ?_
          refine xq_seq ?_
          refine xc_block ?_
        refine xc_loopK (ι := Nat) (fun i => i ≤ 6) (fun i => 6 - i) (fun i => [(23, .string lg), (24, .slice (some ⟨r280, 0, none⟩) 6 6), (25, .int .i64 i)]) 0 (Nat.zero_le _) (by repeat (first | exact keep_nil | refine keep_cons rfl ?_)) ?_
        intro i hi
        by_cases hi6 : i < 6
        · obtain ⟨b, o, hp, hc⟩ := hbR.rows Pb.len (by decide) (by omega)
          simp only [Option.some.injEq, Addr.mk.injEq, and_true] at hp
          obtain ⟨rfl, rfl⟩ := hp
          have hci := hc i (by omega)
          have hc5 := hc 5 (by omega)
          have ox := hbo bads[i] (List.getElem_mem _)
          have oy := hbo bads[5] (List.getElem_mem _)
          generalize bads[i] = x at *
          generalize bads[5] = y at *
          have hcI : ∀ (j : Nat) (u : Value), x.enc[j]? = some u → Cl W [(r280, .cells (bads.flatMap Pb.enc).toArray 35 (0, 0)), (r274, .cells (ints .u8 [1]).toArray 5 (0, 0))] r280 (0 + (i : Int).toNat * 4 + j) u := fun j u hj => hci j u hj
          have hcJ : ∀ (j : Nat) (u : Value), y.enc[j]? = some u → Cl W [(r280, .cells (bads.flatMap Pb.enc).toArray 35 (0, 0)), (r274, .cells (ints .u8 [1]).toArray 5 (0, 0))] r280 (0 + Int.toNat 5 * 4 + j) u := fun j u hj => hc5 j u hj
          generalize hBB : [(r280, Obj.cells (bads.flatMap Pb.enc).toArray 35 (0, 0)), (r274, Obj.cells (ints .u8 [1]).toArray 5 (0, 0))] = BB at *
          focus
            refine xc_seq ?_
            refine xc_seq ?_
            refine xc_region ?_
            refine xo_rd (rd_move rfl) rfl ?_
            refine xo_rd (rd_move rfl) rfl ?_
            refine xo_rd (rd_len rfl) rfl ?_
            refine xo_rd (rd_lss rfl rfl) rfl ?_
            refine xo_nil ?_
            refine xq_seq ?_
            refine xc_dec rfl (fun h1 => ?_) (fun h1 => (by exfalso; omega))
            refine xc_skip ?_
            refine xq_seq ?_
            refine xc_seq ?_
            refine xc_block ?_
            refine xc_seq ?_
            refine xc_drawM [0, 1, 2, 0, 0, 24, 32, 68, 128, 256, 768, 1024, 1024, 7168, 9216, 1024, 33792, 66560, 148480, 263168, 525312, 1049600, 2621440, 4194304, 4194304, 29360128, 37748736, 71303168, 138412032, 272629760, 541065216] [0, 1, 2, 0, 0, 24, 32, 68, 128, 256, 768, 1024, 1024, 7168, 9216, 1024, 33792, 66560, 148480, 263168, 525312, 1049600, 2621440, 4194304, 4194304, 29360128, 37748736, 71303168, 138412032, 272629760, 541065216] BB (by kernel_rfl) (by kernel_rfl) (by kernel_rfl) ?_
            refine xm_take 0 (m' := 1) rfl (by kernel_rfl) (by first | exact Sb.refl | exact Sb.nil | (repeat (first | exact Sb.nil | exact Sb.refl | exact Sb.app0 | apply Sb.keep | apply Sb.keepApp | apply Sb.cons | apply Sb.app))) (rd_move rfl) rfl (by kernel_rfl) ?_
            refine xm_take 1 (m' := 3) rfl (by kernel_rfl) (by first | exact Sb.refl | exact Sb.nil | (repeat (first | exact Sb.nil | exact Sb.refl | exact Sb.app0 | apply Sb.keep | apply Sb.keepApp | apply Sb.cons | apply Sb.app))) (rd_indexAddr rfl rfl (by omega) (by omega)) rfl (by kernel_rfl) ?_
            refine xm_take 2 (m' := 7) rfl (by kernel_rfl) (by first | exact Sb.refl | exact Sb.nil | (repeat (first | exact Sb.nil | exact Sb.refl | exact Sb.app0 | apply Sb.keep | apply Sb.keepApp | apply Sb.cons | apply Sb.app))) (rd_loadA (vs := y.enc) rfl rfl hcJ) rfl (by kernel_rfl) ?_
            refine xm_take 3 (m' := 15) rfl (by kernel_rfl) (by first | exact Sb.refl | exact Sb.nil | (repeat (first | exact Sb.nil | exact Sb.refl | exact Sb.app0 | apply Sb.keep | apply Sb.keepApp | apply Sb.cons | apply Sb.app))) (rd_move rfl) rfl (by kernel_rfl) ?_
            refine xm_take 4 (m' := 31) rfl (by kernel_rfl) (by first | exact Sb.refl | exact Sb.nil | (repeat (first | exact Sb.nil | exact Sb.refl | exact Sb.app0 | apply Sb.keep | apply Sb.keepApp | apply Sb.cons | apply Sb.app))) (rd_move rfl) rfl (by kernel_rfl) ?_
            refine xm_take 5 (m' := 63) rfl (by kernel_rfl) (by first | exact Sb.refl | exact Sb.nil | (repeat (first | exact Sb.nil | exact Sb.refl | exact Sb.app0 | apply Sb.keep | apply Sb.keepApp | apply Sb.cons | apply Sb.app))) (rd_indexAddr rfl rfl (by omega) (by omega)) rfl (by kernel_rfl) ?_
            refine xm_take 6 (m' := 127) rfl (by kernel_rfl) (by first | exact Sb.refl | exact Sb.nil | (repeat (first | exact Sb.nil | exact Sb.refl | exact Sb.app0 | apply Sb.keep | apply Sb.keepApp | apply Sb.cons | apply Sb.app))) (rd_loadA (vs := x.enc) rfl rfl hcI) rfl (by kernel_rfl) ?_
            refine xm_one 7 (m' := 255) rfl (by kernel_rfl) rfl (by kernel_rfl) (ef_buildL (T := 29) (len := 2) (s := 4) (vs := [(0, .agg y.enc.toArray), (1, .agg x.enc.toArray)]) (cells := ([y, x].flatMap Pb.enc).toArray) rfl (by decide) (by decide) (by kernel_rfl) fun r294 => ?_)
            refine ⟨(by first | exact Sb.refl | exact Sb.nil | (repeat (first | exact Sb.nil | exact Sb.refl | exact Sb.app0 | apply Sb.keep | apply Sb.keepApp | apply Sb.cons | apply Sb.app))), ?_⟩
            refine xm_one 8 (m' := 511) rfl (by kernel_rfl) rfl (by kernel_rfl) (ef_call rfl (XF.mono (xk_joins (some ⟨r294, 0, none⟩) 2 2 [y, x] rfl (PbR.lit (T := 35) (List.Mem.head _) (two_ok (oy.mono (by intro z hz; simp [hz])) (ox.mono (by intro z hz; simp [hz])))) (by decide)) ?_))
            rintro v L' ⟨rfl, rfl⟩
            refine ⟨(by first | exact Sb.refl | exact Sb.nil | (repeat (first | exact Sb.nil | exact Sb.refl | exact Sb.app0 | apply Sb.keep | apply Sb.keepApp | apply Sb.cons | apply Sb.app))), ?_⟩
            refine xm_take 9 (m' := 1023) rfl (by kernel_rfl) (by first | exact Sb.refl | exact Sb.nil | (repeat (first | exact Sb.nil | exact Sb.refl | exact Sb.app0 | apply Sb.keep | apply Sb.keepApp | apply Sb.cons | apply Sb.app))) (rd_not rfl) rfl (by kernel_rfl) ?_
            refine xm_take 10 (m' := 2047) rfl (by kernel_rfl) (by first | exact Sb.refl | exact Sb.nil | (repeat (first | exact Sb.nil | exact Sb.refl | exact Sb.app0 | apply Sb.keep | apply Sb.keepApp | apply Sb.cons | apply Sb.app))) (rd_move rfl) rfl (by kernel_rfl) ?_
            refine xm_gtake 11 (m' := 4095) rfl (by kernel_rfl) (by first | exact Sb.refl | exact Sb.nil | (repeat (first | exact Sb.nil | exact Sb.refl | exact Sb.app0 | apply Sb.keep | apply Sb.keepApp | apply Sb.cons | apply Sb.app))) rfl rfl (rd_move rfl) rfl (by kernel_rfl) ?_
            refine xm_gtake 12 (m' := 8191) rfl (by kernel_rfl) (by first | exact Sb.refl | exact Sb.nil | (repeat (first | exact Sb.nil | exact Sb.refl | exact Sb.app0 | apply Sb.keep | apply Sb.keepApp | apply Sb.cons | apply Sb.app))) rfl rfl (rd_move rfl) rfl (by kernel_rfl) ?_
            refine xm_gtake 13 (m' := 16383) rfl (by kernel_rfl) (by first | exact Sb.refl | exact Sb.nil | (repeat (first | exact Sb.nil | exact Sb.refl | exact Sb.app0 | apply Sb.keep | apply Sb.keepApp | apply Sb.cons | apply Sb.app))) rfl rfl (rd_indexAddr rfl rfl (by omega) (by omega)) rfl (by kernel_rfl) ?_
            refine xm_gtake 14 (m' := 32767) rfl (by kernel_rfl) (by first | exact Sb.refl | exact Sb.nil | (repeat (first | exact Sb.nil | exact Sb.refl | exact Sb.app0 | apply Sb.keep | apply Sb.keepApp | apply Sb.cons | apply Sb.app))) rfl rfl (rd_loadA (vs := x.enc) rfl rfl hcI) rfl (by kernel_rfl) ?_
            refine xm_gtake 15 (m' := 65535) rfl (by kernel_rfl) (by first | exact Sb.refl | exact Sb.nil | (repeat (first | exact Sb.nil | exact Sb.refl | exact Sb.app0 | apply Sb.keep | apply Sb.keepApp | apply Sb.cons | apply Sb.app))) rfl rfl (rd_move rfl) rfl (by kernel_rfl) ?_
            refine xm_gtake 16 (m' := 131071) rfl (by kernel_rfl) (by first | exact Sb.refl | exact Sb.nil | (repeat (first | exact Sb.nil | exact Sb.refl | exact Sb.app0 | apply Sb.keep | apply Sb.keepApp | apply Sb.cons | apply Sb.app))) rfl rfl (rd_indexAddr rfl rfl (by omega) (by omega)) rfl (by kernel_rfl) ?_
            refine xm_gtake 17 (m' := 262143) rfl (by kernel_rfl) (by first | exact Sb.refl | exact Sb.nil | (repeat (first | exact Sb.nil | exact Sb.refl | exact Sb.app0 | apply Sb.keep | apply Sb.keepApp | apply Sb.cons | apply Sb.app))) rfl rfl (rd_loadA (vs := y.enc) rfl rfl hcJ) rfl (by kernel_rfl) ?_
            refine xm_gone 18 (m' := 524287) rfl (by kernel_rfl) rfl rfl rfl (by kernel_rfl) (ef_buildL (T := 29) (len := 2) (s := 4) (vs := [(0, .agg x.enc.toArray), (1, .agg y.enc.toArray)]) (cells := ([x, y].flatMap Pb.enc).toArray) rfl (by decide) (by decide) (by kernel_rfl) fun r305 => ?_)
            refine ⟨(by first | exact Sb.refl | exact Sb.nil | (repeat (first | exact Sb.nil | exact Sb.refl | exact Sb.app0 | apply Sb.keep | apply Sb.keepApp | apply Sb.cons | apply Sb.app))), ?_⟩
            refine xm_gone 19 (m' := 1048575) rfl (by kernel_rfl) rfl rfl rfl (by kernel_rfl) (ef_call rfl (XF.mono (xk_joins (some ⟨r305, 0, none⟩) 2 2 [x, y] rfl (PbR.lit (T := 35) (List.Mem.head _) (two_ok (ox.mono (by intro z hz; simp [hz])) (oy.mono (by intro z hz; simp [hz])))) (by decide)) ?_))
            rintro v L' ⟨rfl, rfl⟩
            refine ⟨(by first | exact Sb.refl | exact Sb.nil | (repeat (first | exact Sb.nil | exact Sb.refl | exact Sb.app0 | apply Sb.keep | apply Sb.keepApp | apply Sb.cons | apply Sb.app))), ?_⟩
            refine xm_gtake 20 (m' := 2097151) rfl (by kernel_rfl) (by first | exact Sb.refl | exact Sb.nil | (repeat (first | exact Sb.nil | exact Sb.refl | exact Sb.app0 | apply Sb.keep | apply Sb.keepApp | apply Sb.cons | apply Sb.app))) rfl rfl (rd_not rfl) rfl (by kernel_rfl) ?_
            refine xm_take 21 (m' := 4194303) rfl (by kernel_rfl) (by first | exact Sb.refl | exact Sb.nil | (repeat (first | exact Sb.nil | exact Sb.refl | exact Sb.app0 | apply Sb.keep | apply Sb.keepApp | apply Sb.cons | apply Sb.app))) (rd_pickf rfl rfl) rfl (by kernel_rfl) ?_
            refine xm_take 22 (m' := 8388607) rfl (by kernel_rfl) (by first | exact Sb.refl | exact Sb.nil | (repeat (first | exact Sb.nil | exact Sb.refl | exact Sb.app0 | apply Sb.keep | apply Sb.keepApp | apply Sb.cons | apply Sb.app))) (rd_move rfl) rfl (by kernel_rfl) ?_
            refine xm_gtake 23 (m' := 16777215) rfl (by kernel_rfl) (by first | exact Sb.refl | exact Sb.nil | (repeat (first | exact Sb.nil | exact Sb.refl | exact Sb.app0 | apply Sb.keep | apply Sb.keepApp | apply Sb.cons | apply Sb.app))) rfl rfl (rd_move rfl) rfl (by kernel_rfl) ?_
            refine xm_gtake 24 (m' := 33554431) rfl (by kernel_rfl) (by first | exact Sb.refl | exact Sb.nil | (repeat (first | exact Sb.nil | exact Sb.refl | exact Sb.app0 | apply Sb.keep | apply Sb.keepApp | apply Sb.cons | apply Sb.app))) rfl rfl (rd_move rfl) rfl (by kernel_rfl) ?_
            refine xm_gtake 25 (m' := 67108863) rfl (by kernel_rfl) (by first | exact Sb.refl | exact Sb.nil | (repeat (first | exact Sb.nil | exact Sb.refl | exact Sb.app0 | apply Sb.keep | apply Sb.keepApp | apply Sb.cons | apply Sb.app))) rfl rfl (rd_indexAddr rfl rfl (by omega) (by omega)) rfl (by kernel_rfl) ?_
            refine xm_gtake 26 (m' := 134217727) rfl (by kernel_rfl) (by first | exact Sb.refl | exact Sb.nil | (repeat (first | exact Sb.nil | exact Sb.refl | exact Sb.app0 | apply Sb.keep | apply Sb.keepApp | apply Sb.cons | apply Sb.app))) rfl rfl (rd_loadA (vs := x.enc) rfl rfl hcI) rfl (by kernel_rfl) ?_
            refine xm_gone 27 (m' := 268435455) rfl (by kernel_rfl) rfl rfl rfl (by kernel_rfl) (ef_buildL (T := 29) (len := 1) (s := 4) (cells := ([x].flatMap Pb.enc).toArray) rfl (by decide) (by decide) (by kernel_rfl) fun r314 => ?_)
            refine ⟨(by first | exact Sb.refl | exact Sb.nil | (repeat (first | exact Sb.nil | exact Sb.refl | exact Sb.app0 | apply Sb.keep | apply Sb.keepApp | apply Sb.cons | apply Sb.app))), ?_⟩
            refine xm_gone 28 (m' := 536870911) rfl (by kernel_rfl) rfl rfl rfl (by kernel_rfl) (ef_call rfl (XF.mono (xk_back (some ⟨r314, 0, none⟩) 1 1 [x] rfl (PbR.lit (T := 35) (List.Mem.head _) (one_ok (ox.mono (by intro z hz; simp [hz])))) (by decide) none 0 0 [] rfl Rs.nil (fun x h => by cases h) (Nat.le_refl _) (by decide)) ?_))
            rintro v L' ⟨rfl, rfl⟩
            refine ⟨(by first | exact Sb.refl | exact Sb.nil | (repeat (first | exact Sb.nil | exact Sb.refl | exact Sb.app0 | apply Sb.keep | apply Sb.keepApp | apply Sb.cons | apply Sb.app))), ?_⟩
            refine xm_gtake 29 (m' := 1073741823) rfl (by kernel_rfl) (by first | exact Sb.refl | exact Sb.nil | (repeat (first | exact Sb.nil | exact Sb.refl | exact Sb.app0 | apply Sb.keep | apply Sb.keepApp | apply Sb.cons | apply Sb.app))) rfl rfl (rd_not rfl) rfl (by kernel_rfl) ?_
            refine xm_take 30 (m' := 2147483647) rfl (by kernel_rfl) (by first | exact Sb.refl | exact Sb.nil | (repeat (first | exact Sb.nil | exact Sb.refl | exact Sb.app0 | apply Sb.keep | apply Sb.keepApp | apply Sb.cons | apply Sb.app))) (rd_pickf rfl rfl) rfl (by kernel_rfl) ?_
            refine xm_done (by kernel_rfl) ?_
            refine xq_seq ?_
            refine xc_condf rfl ?_
            refine xc_skip ?_
            refine xq_block ?_
            refine xq_seq ?_
            refine xc_region ?_
            refine xo_rd (rd_move rfl) rfl ?_
            refine xo_rd (rd_addn rfl rfl (by omega) (by omega)) rfl ?_
            refine xo_rd (rd_assign rfl) rfl ?_
            refine xo_nil ?_
          exact xq_roundK rfl (i + 1) (by omega) (by omega) (.cons _ (.cons _ (List.sublist_cons_self _ _))) (by repeat (first | exact keep_nil | refine keep_cons rfl ?_))
        · skip
          focus
            refine xc_seq ?_
            refine xc_seq ?_
            refine xc_region ?_
            refine xo_rd (rd_move rfl) rfl ?_
            refine xo_rd (rd_move rfl) rfl ?_
            refine xo_rd (rd_len rfl) rfl ?_
            refine xo_rd (rd_lss rfl rfl) rfl ?_
            refine xo_nil ?_
            refine xq_seq ?_
            refine xc_dec rfl (fun hw1 => (by exfalso; omega)) (fun hw1 => ?_)
            refine xc_exit ?_
            refine xq_then_exit ?_
            refine xq_then_exit ?_
            refine xq_block_hit ?_
          exact xq_sub (List.nil_sublist _) (xq_joined () trivial rfl (by repeat (first | exact keep_nil | refine keep_cons rfl ?_)))
      · rintro _ _
        have hex : (lg.extract (1 : Int).toNat lg.size).size ≤ 256 := by rw [ByteArray.size_extract]; omega
        obtain ⟨l2, hl2⟩ : ∃ l2, lg.extract (1 : Int).toNat lg.size = l2 := ⟨_, rfl⟩
        rw [hl2] at hex
        focus
          refine xc_seq ?_
          refine xc_drawM [0, 1, 2, 0, 8, 16, 0, 64, 164, 256, 512, 1536, 2560, 512, 8704, 16896, 33280, 512, 131584, 262656, 594432, 1049088, 3145728, 4194304, 4194304, 29360128, 37748736, 4194304, 205520896, 272629760, 805306368, 1073741824, 3221225472, 6442450944, 8589934592, 25769803776, 51539607552, 68719476736, 206158430208, 549755813887] [0, 1, 2, 0, 8, 16, 0, 64, 164, 256, 512, 1536, 2560, 512, 8704, 16896, 33280, 512, 131584, 262656, 594432, 1049088, 3145728, 4194304, 4194304, 29360128, 37748736, 4194304, 205520896, 272629760, 805306368, 1073741824, 3221225472, 6442450944, 8589934592, 25769803776, 51539607552, 68719476736, 206158430208, 549755813887] [] (by kernel_rfl) (by kernel_rfl) (by kernel_rfl) ?_
          refine xm_take 0 (m' := 1) rfl (by kernel_rfl) (by first | exact Sb.refl | exact Sb.nil | (repeat (first | exact Sb.nil | exact Sb.refl | exact Sb.app0 | apply Sb.keep | apply Sb.keepApp | apply Sb.cons | apply Sb.app))) (rd_build rfl rfl rfl) rfl (by kernel_rfl) ?_
          refine xm_take 3 (m' := 9) rfl (by kernel_rfl) (by first | exact Sb.refl | exact Sb.nil | (repeat (first | exact Sb.nil | exact Sb.refl | exact Sb.app0 | apply Sb.keep | apply Sb.keepApp | apply Sb.cons | apply Sb.app))) (rd_move rfl) rfl (by kernel_rfl) ?_
          refine xm_take 4 (m' := 25) rfl (by kernel_rfl) (by first | exact Sb.refl | exact Sb.nil | (repeat (first | exact Sb.nil | exact Sb.refl | exact Sb.app0 | apply Sb.keep | apply Sb.keepApp | apply Sb.cons | apply Sb.app))) (rd_build rfl rfl rfl) rfl (by kernel_rfl) ?_
          refine xm_take 6 (m' := 89) rfl (by kernel_rfl) (by first | exact Sb.refl | exact Sb.nil | (repeat (first | exact Sb.nil | exact Sb.refl | exact Sb.app0 | apply Sb.keep | apply Sb.keepApp | apply Sb.cons | apply Sb.app))) (rd_move rfl) rfl (by kernel_rfl) ?_
          refine xm_take 7 (m' := 217) rfl (by kernel_rfl) (by first | exact Sb.refl | exact Sb.nil | (repeat (first | exact Sb.nil | exact Sb.refl | exact Sb.app0 | apply Sb.keep | apply Sb.keepApp | apply Sb.cons | apply Sb.app))) (rd_build rfl rfl rfl) rfl (by kernel_rfl) ?_
          refine xm_two 1 5 (mi := 219) (mk := 249) rfl rfl (by kernel_rfl) rfl rfl (by kernel_rfl) (by kernel_rfl) (ef_buildL (T := 51) (len := 1) (s := 7) (vs := [(0, .agg (Bk.enc (Bk.tot 8388608)).toArray)]) (cells := ([Bk.tot 8388608].flatMap Bk.enc).toArray) rfl (by decide) (by decide) (by kernel_rfl) fun r319 => ⟨(by first | exact Sb.refl | exact Sb.nil | (repeat (first | exact Sb.nil | exact Sb.refl | exact Sb.app0 | apply Sb.keep | apply Sb.keepApp | apply Sb.cons | apply Sb.app))), ?_⟩) (ef_buildL (T := 54) (len := 1) (s := 2) (vs := [(0, .agg (Ck.enc ⟨0, lg⟩).toArray)]) (cells := (([⟨0, lg⟩] : List Ck).flatMap Ck.enc).toArray) rfl (by decide) (by decide) (by kernel_rfl) fun r323 => ⟨(by first | exact Sb.refl | exact Sb.nil | (repeat (first | exact Sb.nil | exact Sb.refl | exact Sb.app0 | apply Sb.keep | apply Sb.keepApp | apply Sb.cons | apply Sb.app))), ?_⟩)
          refine xm_take 2 (m' := 223) rfl (by kernel_rfl) (by first | exact Sb.refl | exact Sb.nil | (repeat (first | exact Sb.nil | exact Sb.refl | exact Sb.app0 | apply Sb.keep | apply Sb.keepApp | apply Sb.cons | apply Sb.app))) (rd_build rfl rfl rfl) rfl (by kernel_rfl) ?_
          refine xm_one 5 (m' := 255) rfl (by kernel_rfl) rfl (by kernel_rfl) (ef_buildL (T := 54) (len := 1) (s := 2) (vs := [(0, .agg (Ck.enc ⟨0, lg⟩).toArray)]) (cells := (([⟨0, lg⟩] : List Ck).flatMap Ck.enc).toArray) rfl (by decide) (by decide) (by kernel_rfl) fun r323 => ?_)
          refine ⟨(by first | exact Sb.refl | exact Sb.nil | (repeat (first | exact Sb.nil | exact Sb.refl | exact Sb.app0 | apply Sb.keep | apply Sb.keepApp | apply Sb.cons | apply Sb.app))), ?_⟩
          refine xm_one 8 (m' := 511) rfl (by kernel_rfl) rfl (by kernel_rfl) (ef_call rfl (XF.mono (xk_puts ⟨0, 0, 0, 0, 0, [Bk.tot (8388608)]⟩ (Sn.bls_rg fun b hb => by simp only [List.mem_cons, List.not_mem_nil, or_false] at hb; rw [hb]; exact Bk.tot_rg (by decide) (by decide)) (some ⟨r319, 0, none⟩) 1 1 rfl (Rs.fresh (T := 95) (fr := (0, 0)) (by simp)) (by decide) (some ⟨r323, 0, none⟩) 1 1 [⟨0, lg⟩] rfl (Rs.fresh (T := 97) (fr := (0, 0)) (by simp)) (fun x hx => by rw [List.mem_singleton.1 hx]; exact (show U4 0 from ⟨by decide, by decide⟩)) (by decide) ⟨[], lg⟩ none 0 0 rfl Rs.nil (fun x hx => by cases hx) (Nat.zero_le _) (by first | (dsimp only; omega) | exact Nat.zero_le _)) ?_))
          rintro v L' ⟨rfl, rfl⟩
          refine ⟨(by first | exact Sb.refl | exact Sb.nil | (repeat (first | exact Sb.nil | exact Sb.refl | exact Sb.app0 | apply Sb.keep | apply Sb.keepApp | apply Sb.cons | apply Sb.app))), ?_⟩
          refine xm_take 9 (m' := 1023) rfl (by kernel_rfl) (by first | exact Sb.refl | exact Sb.nil | (repeat (first | exact Sb.nil | exact Sb.refl | exact Sb.app0 | apply Sb.keep | apply Sb.keepApp | apply Sb.cons | apply Sb.app))) (rd_move rfl) rfl (by kernel_rfl) ?_
          refine xm_gtake 10 (m' := 2047) rfl (by kernel_rfl) (by first | exact Sb.refl | exact Sb.nil | (repeat (first | exact Sb.nil | exact Sb.refl | exact Sb.app0 | apply Sb.keep | apply Sb.keepApp | apply Sb.cons | apply Sb.app))) rfl rfl (rd_build rfl rfl rfl) rfl (by kernel_rfl) ?_
          refine xm_gtake 13 (m' := 10239) rfl (by kernel_rfl) (by first | exact Sb.refl | exact Sb.nil | (repeat (first | exact Sb.nil | exact Sb.refl | exact Sb.app0 | apply Sb.keep | apply Sb.keepApp | apply Sb.cons | apply Sb.app))) rfl rfl (rd_move rfl) rfl (by kernel_rfl) ?_
          refine xm_gtake 14 (m' := 26623) rfl (by kernel_rfl) (by first | exact Sb.refl | exact Sb.nil | (repeat (first | exact Sb.nil | exact Sb.refl | exact Sb.app0 | apply Sb.keep | apply Sb.keepApp | apply Sb.cons | apply Sb.app))) rfl rfl (rd_cast (v' := .string l2) (rd_strLo rfl rfl (by omega) (by omega)) (congrArg Value.string hl2)) rfl (by kernel_rfl) ?_
          refine xm_gtake 15 (m' := 59391) rfl (by kernel_rfl) (by first | exact Sb.refl | exact Sb.nil | (repeat (first | exact Sb.nil | exact Sb.refl | exact Sb.app0 | apply Sb.keep | apply Sb.keepApp | apply Sb.cons | apply Sb.app))) rfl rfl (rd_build rfl rfl rfl) rfl (by kernel_rfl) ?_
          refine xm_gtake 17 (m' := 190463) rfl (by kernel_rfl) (by first | exact Sb.refl | exact Sb.nil | (repeat (first | exact Sb.nil | exact Sb.refl | exact Sb.app0 | apply Sb.keep | apply Sb.keepApp | apply Sb.cons | apply Sb.app))) rfl rfl (rd_move rfl) rfl (by kernel_rfl) ?_
          refine xm_gtake 18 (m' := 452607) rfl (by kernel_rfl) (by first | exact Sb.refl | exact Sb.nil | (repeat (first | exact Sb.nil | exact Sb.refl | exact Sb.app0 | apply Sb.keep | apply Sb.keepApp | apply Sb.cons | apply Sb.app))) rfl rfl (rd_cast (v' := .string l2) (rd_strLo rfl rfl (by omega) (by omega)) (congrArg Value.string hl2)) rfl (by kernel_rfl) ?_
          refine xm_gtake 19 (m' := 976895) rfl (by kernel_rfl) (by first | exact Sb.refl | exact Sb.nil | (repeat (first | exact Sb.nil | exact Sb.refl | exact Sb.app0 | apply Sb.keep | apply Sb.keepApp | apply Sb.cons | apply Sb.app))) rfl rfl (rd_build rfl rfl rfl) rfl (by kernel_rfl) ?_
          refine xm_l2 11 16 (by kernel_rfl) (xms_gef 11 (m' := 978943) rfl rfl rfl rfl (by kernel_rfl) (ef_buildL (T := 51) (len := 1) (s := 7) (vs := [(0, .agg (Bk.enc (Bk.tot (-8388609))).toArray)]) (cells := ([Bk.tot (-8388609)].flatMap Bk.enc).toArray) rfl (by decide) (by decide) (by kernel_rfl) fun r329 => ⟨(by first | exact Sb.refl | exact Sb.nil | (repeat (first | exact Sb.nil | exact Sb.refl | exact Sb.app0 | apply Sb.keep | apply Sb.keepApp | apply Sb.cons | apply Sb.app))), ?_⟩)) (xms_gef 16 (m' := 1042431) rfl rfl rfl rfl (by kernel_rfl) (ef_buildL (T := 54) (len := 1) (s := 2) (vs := [(0, .agg (Ck.enc ⟨0, l2⟩).toArray)]) (cells := (([⟨0, l2⟩] : List Ck).flatMap Ck.enc).toArray) rfl (by decide) (by decide) (by kernel_rfl) fun r334 => ⟨(by first | exact Sb.refl | exact Sb.nil | (repeat (first | exact Sb.nil | exact Sb.refl | exact Sb.app0 | apply Sb.keep | apply Sb.keepApp | apply Sb.cons | apply Sb.app))), ?_⟩))
          refine xm_gtake 12 (m' := 983039) rfl (by kernel_rfl) (by first | exact Sb.refl | exact Sb.nil | (repeat (first | exact Sb.nil | exact Sb.refl | exact Sb.app0 | apply Sb.keep | apply Sb.keepApp | apply Sb.cons | apply Sb.app))) rfl rfl (rd_build rfl rfl rfl) rfl (by kernel_rfl) ?_
          refine xm_gone 16 (m' := 1048575) rfl (by kernel_rfl) rfl rfl rfl (by kernel_rfl) (ef_buildL (T := 54) (len := 1) (s := 2) (vs := [(0, .agg (Ck.enc ⟨0, l2⟩).toArray)]) (cells := (([⟨0, l2⟩] : List Ck).flatMap Ck.enc).toArray) rfl (by decide) (by decide) (by kernel_rfl) fun r334 => ?_)
          refine ⟨(by first | exact Sb.refl | exact Sb.nil | (repeat (first | exact Sb.nil | exact Sb.refl | exact Sb.app0 | apply Sb.keep | apply Sb.keepApp | apply Sb.cons | apply Sb.app))), ?_⟩
          refine xm_gone 20 (m' := 2097151) rfl (by kernel_rfl) rfl rfl rfl (by kernel_rfl) (ef_call rfl (XF.mono (xk_puts ⟨0, 0, 0, 0, 0, [Bk.tot (-8388609)]⟩ (Sn.bls_rg fun b hb => by simp only [List.mem_cons, List.not_mem_nil, or_false] at hb; rw [hb]; exact Bk.tot_rg (by decide) (by decide)) (some ⟨r329, 0, none⟩) 1 1 rfl (Rs.fresh (T := 95) (fr := (0, 0)) (by simp)) (by decide) (some ⟨r334, 0, none⟩) 1 1 [⟨0, l2⟩] rfl (Rs.fresh (T := 97) (fr := (0, 0)) (by simp)) (fun x hx => by rw [List.mem_singleton.1 hx]; exact (show U4 0 from ⟨by decide, by decide⟩)) (by decide) ⟨[], l2⟩ none 0 0 rfl Rs.nil (fun x hx => by cases hx) (Nat.zero_le _) (by first | (dsimp only; omega) | exact Nat.zero_le _)) ?_))
          rintro v L' ⟨rfl, rfl⟩
          refine ⟨(by first | exact Sb.refl | exact Sb.nil | (repeat (first | exact Sb.nil | exact Sb.refl | exact Sb.app0 | apply Sb.keep | apply Sb.keepApp | apply Sb.cons | apply Sb.app))), ?_⟩
          refine xm_take 21 (m' := 4194303) rfl (by kernel_rfl) (by first | exact Sb.refl | exact Sb.nil | (repeat (first | exact Sb.nil | exact Sb.refl | exact Sb.app0 | apply Sb.keep | apply Sb.keepApp | apply Sb.cons | apply Sb.app))) (rd_pickt rfl rfl) rfl (by kernel_rfl) ?_
          refine xm_take 22 (m' := 8388607) rfl (by kernel_rfl) (by first | exact Sb.refl | exact Sb.nil | (repeat (first | exact Sb.nil | exact Sb.refl | exact Sb.app0 | apply Sb.keep | apply Sb.keepApp | apply Sb.cons | apply Sb.app))) (rd_move rfl) rfl (by kernel_rfl) ?_
          refine xm_gtake 23 (m' := 16777215) rfl (by kernel_rfl) (by first | exact Sb.refl | exact Sb.nil | (repeat (first | exact Sb.nil | exact Sb.refl | exact Sb.app0 | apply Sb.keep | apply Sb.keepApp | apply Sb.cons | apply Sb.app))) rfl rfl (rd_build rfl rfl rfl) rfl (by kernel_rfl) ?_
          refine xm_gtake 24 (m' := 33554431) rfl (by kernel_rfl) (by first | exact Sb.refl | exact Sb.nil | (repeat (first | exact Sb.nil | exact Sb.refl | exact Sb.app0 | apply Sb.keep | apply Sb.keepApp | apply Sb.cons | apply Sb.app))) rfl rfl (rd_build rfl rfl rfl) rfl (by kernel_rfl) ?_
          refine xm_gtake 27 (m' := 167772159) rfl (by kernel_rfl) (by first | exact Sb.refl | exact Sb.nil | (repeat (first | exact Sb.nil | exact Sb.refl | exact Sb.app0 | apply Sb.keep | apply Sb.keepApp | apply Sb.cons | apply Sb.app))) rfl rfl (rd_build rfl rfl rfl) rfl (by kernel_rfl) ?_
          refine xm_gone 25 (m' := 201326591) rfl (by kernel_rfl) rfl rfl rfl (by kernel_rfl) (ef_buildL (T := 51) (len := 2) (s := 7) (vs := [(0, .agg (Bk.enc (Bk.tot (-8388608))).toArray), (1, .agg (Bk.enc (Bk.tot 8388607)).toArray)]) (cells := ([Bk.tot (-8388608), Bk.tot 8388607].flatMap Bk.enc).toArray) rfl (by decide) (by decide) (by kernel_rfl) fun r343 => ?_)
          refine ⟨(by first | exact Sb.refl | exact Sb.nil | (repeat (first | exact Sb.nil | exact Sb.refl | exact Sb.app0 | apply Sb.keep | apply Sb.keepApp | apply Sb.cons | apply Sb.app))), ?_⟩
          refine xm_gtake 26 (m' := 268435455) rfl (by kernel_rfl) (by first | exact Sb.refl | exact Sb.nil | (repeat (first | exact Sb.nil | exact Sb.refl | exact Sb.app0 | apply Sb.keep | apply Sb.keepApp | apply Sb.cons | apply Sb.app))) rfl rfl (rd_build rfl rfl rfl) rfl (by kernel_rfl) ?_
          refine xm_gone 28 (m' := 536870911) rfl (by kernel_rfl) rfl rfl rfl (by kernel_rfl) (ef_call rfl (XF.mono (xk_puts ⟨0, 0, 0, 0, 0, [Bk.tot (-8388608), Bk.tot (8388607)]⟩ (Sn.bls_rg fun b hb => by simp only [List.mem_cons, List.not_mem_nil, or_false] at hb; rcases hb with rfl | rfl <;> exact Bk.tot_rg (by decide) (by decide)) (some ⟨r343, 0, none⟩) 2 2 rfl (Rs.fresh (T := 95) (fr := (0, 0)) (by simp)) (by decide) none 0 0 [] rfl Rs.nil (fun x hx => by cases hx) (by decide) ⟨[], ⟨#[]⟩⟩ none 0 0 rfl Rs.nil (fun x hx => by cases hx) (Nat.zero_le _) (by first | (dsimp only; omega) | exact Nat.zero_le _)) ?_))
          rintro v L' ⟨rfl, rfl⟩
          refine ⟨(by first | exact Sb.refl | exact Sb.nil | (repeat (first | exact Sb.nil | exact Sb.refl | exact Sb.app0 | apply Sb.keep | apply Sb.keepApp | apply Sb.cons | apply Sb.app))), ?_⟩
          refine xm_take 29 (m' := 1073741823) rfl (by kernel_rfl) (by first | exact Sb.refl | exact Sb.nil | (repeat (first | exact Sb.nil | exact Sb.refl | exact Sb.app0 | apply Sb.keep | apply Sb.keepApp | apply Sb.cons | apply Sb.app))) (rd_pickt rfl rfl) rfl (by kernel_rfl) ?_
          refine xm_take 30 (m' := 2147483647) rfl (by kernel_rfl) (by first | exact Sb.refl | exact Sb.nil | (repeat (first | exact Sb.nil | exact Sb.refl | exact Sb.app0 | apply Sb.keep | apply Sb.keepApp | apply Sb.cons | apply Sb.app))) (rd_move rfl) rfl (by kernel_rfl) ?_
          refine xm_gone 31 (m' := 4294967295) rfl (by kernel_rfl) rfl rfl rfl (by kernel_rfl) (ef_call rfl (XF.mono (xk_joins none 0 0 [] rfl PbR.nil (by decide)) ?_))
          rintro v L' ⟨rfl, rfl⟩
          refine ⟨(by first | exact Sb.refl | exact Sb.nil | (repeat (first | exact Sb.nil | exact Sb.refl | exact Sb.app0 | apply Sb.keep | apply Sb.keepApp | apply Sb.cons | apply Sb.app))), ?_⟩
          refine xm_take 32 (m' := 8589934591) rfl (by kernel_rfl) (by first | exact Sb.refl | exact Sb.nil | (repeat (first | exact Sb.nil | exact Sb.refl | exact Sb.app0 | apply Sb.keep | apply Sb.keepApp | apply Sb.cons | apply Sb.app))) (rd_pickt rfl rfl) rfl (by kernel_rfl) ?_
          refine xm_take 33 (m' := 17179869183) rfl (by kernel_rfl) (by first | exact Sb.refl | exact Sb.nil | (repeat (first | exact Sb.nil | exact Sb.refl | exact Sb.app0 | apply Sb.keep | apply Sb.keepApp | apply Sb.cons | apply Sb.app))) (rd_move rfl) rfl (by kernel_rfl) ?_
          refine xm_gone 34 (m' := 34359738367) rfl (by kernel_rfl) rfl rfl rfl (by kernel_rfl) (ef_call rfl (XF.mono (xk_splits none 0 0 [] rfl Rs.nil (fun x hx => by cases hx) (Nat.le_refl _) (by decide)) ?_))
          rintro v L' ⟨rfl, rfl⟩
          refine ⟨(by first | exact Sb.refl | exact Sb.nil | (repeat (first | exact Sb.nil | exact Sb.refl | exact Sb.app0 | apply Sb.keep | apply Sb.keepApp | apply Sb.cons | apply Sb.app))), ?_⟩
          refine xm_take 35 (m' := 68719476735) rfl (by kernel_rfl) (by first | exact Sb.refl | exact Sb.nil | (repeat (first | exact Sb.nil | exact Sb.refl | exact Sb.app0 | apply Sb.keep | apply Sb.keepApp | apply Sb.cons | apply Sb.app))) (rd_pickt rfl rfl) rfl (by kernel_rfl) ?_
          refine xm_take 36 (m' := 137438953471) rfl (by kernel_rfl) (by first | exact Sb.refl | exact Sb.nil | (repeat (first | exact Sb.nil | exact Sb.refl | exact Sb.app0 | apply Sb.keep | apply Sb.keepApp | apply Sb.cons | apply Sb.app))) (rd_move rfl) rfl (by kernel_rfl) ?_
          refine xm_gone 37 (m' := 274877906943) rfl (by kernel_rfl) rfl rfl rfl (by kernel_rfl) (ef_call rfl (XF.mono (xf_any (fun W => xf_works)) ?_))
          rintro v L' ⟨rfl, rfl⟩
          refine ⟨(by first | exact Sb.refl | exact Sb.nil | (repeat (first | exact Sb.nil | exact Sb.refl | exact Sb.app0 | apply Sb.keep | apply Sb.keepApp | apply Sb.cons | apply Sb.app))), ?_⟩
          refine xm_take 38 (m' := 549755813887) rfl (by kernel_rfl) (by first | exact Sb.refl | exact Sb.nil | (repeat (first | exact Sb.nil | exact Sb.refl | exact Sb.app0 | apply Sb.keep | apply Sb.keepApp | apply Sb.cons | apply Sb.app))) (rd_pickt rfl rfl) rfl (by kernel_rfl) ?_
          refine xm_take 39 (m' := 1099511627775) rfl (by kernel_rfl) (by first | exact Sb.refl | exact Sb.nil | (repeat (first | exact Sb.nil | exact Sb.refl | exact Sb.app0 | apply Sb.keep | apply Sb.keepApp | apply Sb.cons | apply Sb.app))) (rd_assign rfl) rfl (by kernel_rfl) ?_
          refine xm_done (by kernel_rfl) ?_
          refine xq_seq ?_
          refine xc_ret ?_
          exact xq_ret1 (.inl rfl) Try.results7 rfl (rfl)
          refine xm_gone 11 (m' := 1044479) rfl (by kernel_rfl) rfl rfl rfl (by kernel_rfl) (ef_buildL (T := 51) (len := 1) (s := 7) (vs := [(0, .agg (Bk.enc (Bk.tot (-8388609))).toArray)]) (cells := ([Bk.tot (-8388609)].flatMap Bk.enc).toArray) rfl (by decide) (by decide) (by kernel_rfl) fun r329 => ?_)
          refine ⟨(by first | exact Sb.refl | exact Sb.nil | (repeat (first | exact Sb.nil | exact Sb.refl | exact Sb.app0 | apply Sb.keep | apply Sb.keepApp | apply Sb.cons | apply Sb.app))), ?_⟩
          refine xm_gtake 12 (m' := 1048575) rfl (by kernel_rfl) (by first | exact Sb.refl | exact Sb.nil | (repeat (first | exact Sb.nil | exact Sb.refl | exact Sb.app0 | apply Sb.keep | apply Sb.keepApp | apply Sb.cons | apply Sb.app))) rfl rfl (rd_build rfl rfl rfl) rfl (by kernel_rfl) ?_
          refine xm_gone 20 (m' := 2097151) rfl (by kernel_rfl) rfl rfl rfl (by kernel_rfl) (ef_call rfl (XF.mono (xk_puts ⟨0, 0, 0, 0, 0, [Bk.tot (-8388609)]⟩ (Sn.bls_rg fun b hb => by simp only [List.mem_cons, List.not_mem_nil, or_false] at hb; rw [hb]; exact Bk.tot_rg (by decide) (by decide)) (some ⟨r329, 0, none⟩) 1 1 rfl (Rs.fresh (T := 95) (fr := (0, 0)) (by simp)) (by decide) (some ⟨r334, 0, none⟩) 1 1 [⟨0, l2⟩] rfl (Rs.fresh (T := 97) (fr := (0, 0)) (by simp)) (fun x hx => by rw [List.mem_singleton.1 hx]; exact (show U4 0 from ⟨by decide, by decide⟩)) (by decide) ⟨[], l2⟩ none 0 0 rfl Rs.nil (fun x hx => by cases hx) (Nat.zero_le _) (by first | (dsimp only; omega) | exact Nat.zero_le _)) ?_))
          rintro v L' ⟨rfl, rfl⟩
          refine ⟨(by first | exact Sb.refl | exact Sb.nil | (repeat (first | exact Sb.nil | exact Sb.refl | exact Sb.app0 | apply Sb.keep | apply Sb.keepApp | apply Sb.cons | apply Sb.app))), ?_⟩
          refine xm_take 21 (m' := 4194303) rfl (by kernel_rfl) (by first | exact Sb.refl | exact Sb.nil | (repeat (first | exact Sb.nil | exact Sb.refl | exact Sb.app0 | apply Sb.keep | apply Sb.keepApp | apply Sb.cons | apply Sb.app))) (rd_pickt rfl rfl) rfl (by kernel_rfl) ?_
          refine xm_take 22 (m' := 8388607) rfl (by kernel_rfl) (by first | exact Sb.refl | exact Sb.nil | (repeat (first | exact Sb.nil | exact Sb.refl | exact Sb.app0 | apply Sb.keep | apply Sb.keepApp | apply Sb.cons | apply Sb.app))) (rd_move rfl) rfl (by kernel_rfl) ?_
          refine xm_gtake 23 (m' := 16777215) rfl (by kernel_rfl) (by first | exact Sb.refl | exact Sb.nil | (repeat (first | exact Sb.nil | exact Sb.refl | exact Sb.app0 | apply Sb.keep | apply Sb.keepApp | apply Sb.cons | apply Sb.app))) rfl rfl (rd_build rfl rfl rfl) rfl (by kernel_rfl) ?_
          refine xm_gtake 24 (m' := 33554431) rfl (by kernel_rfl) (by first | exact Sb.refl | exact Sb.nil | (repeat (first | exact Sb.nil | exact Sb.refl | exact Sb.app0 | apply Sb.keep | apply Sb.keepApp | apply Sb.cons | apply Sb.app))) rfl rfl (rd_build rfl rfl rfl) rfl (by kernel_rfl) ?_
          refine xm_gtake 27 (m' := 167772159) rfl (by kernel_rfl) (by first | exact Sb.refl | exact Sb.nil | (repeat (first | exact Sb.nil | exact Sb.refl | exact Sb.app0 | apply Sb.keep | apply Sb.keepApp | apply Sb.cons | apply Sb.app))) rfl rfl (rd_build rfl rfl rfl) rfl (by kernel_rfl) ?_
          refine xm_gone 25 (m' := 201326591) rfl (by kernel_rfl) rfl rfl rfl (by kernel_rfl) (ef_buildL (T := 51) (len := 2) (s := 7) (vs := [(0, .agg (Bk.enc (Bk.tot (-8388608))).toArray), (1, .agg (Bk.enc (Bk.tot 8388607)).toArray)]) (cells := ([Bk.tot (-8388608), Bk.tot 8388607].flatMap Bk.enc).toArray) rfl (by decide) (by decide) (by kernel_rfl) fun r343 => ?_)
          refine ⟨(by first | exact Sb.refl | exact Sb.nil | (repeat (first | exact Sb.nil | exact Sb.refl | exact Sb.app0 | apply Sb.keep | apply Sb.keepApp | apply Sb.cons | apply Sb.app))), ?_⟩
          refine xm_gtake 26 (m' := 268435455) rfl (by kernel_rfl) (by first | exact Sb.refl | exact Sb.nil | (repeat (first | exact Sb.nil | exact Sb.refl | exact Sb.app0 | apply Sb.keep | apply Sb.keepApp | apply Sb.cons | apply Sb.app))) rfl rfl (rd_build rfl rfl rfl) rfl (by kernel_rfl) ?_
          refine xm_gone 28 (m' := 536870911) rfl (by kernel_rfl) rfl rfl rfl (by kernel_rfl) (ef_call rfl (XF.mono (xk_puts ⟨0, 0, 0, 0, 0, [Bk.tot (-8388608), Bk.tot (8388607)]⟩ (Sn.bls_rg fun b hb => by simp only [List.mem_cons, List.not_mem_nil, or_false] at hb; rcases hb with rfl | rfl <;> exact Bk.tot_rg (by decide) (by decide)) (some ⟨r343, 0, none⟩) 2 2 rfl (Rs.fresh (T := 95) (fr := (0, 0)) (by simp)) (by decide) none 0 0 [] rfl Rs.nil (fun x hx => by cases hx) (by decide) ⟨[], ⟨#[]⟩⟩ none 0 0 rfl Rs.nil (fun x hx => by cases hx) (Nat.zero_le _) (by first | (dsimp only; omega) | exact Nat.zero_le _)) ?_))
          rintro v L' ⟨rfl, rfl⟩
          refine ⟨(by first | exact Sb.refl | exact Sb.nil | (repeat (first | exact Sb.nil | exact Sb.refl | exact Sb.app0 | apply Sb.keep | apply Sb.keepApp | apply Sb.cons | apply Sb.app))), ?_⟩
          refine xm_take 29 (m' := 1073741823) rfl (by kernel_rfl) (by first | exact Sb.refl | exact Sb.nil | (repeat (first | exact Sb.nil | exact Sb.refl | exact Sb.app0 | apply Sb.keep | apply Sb.keepApp | apply Sb.cons | apply Sb.app))) (rd_pickt rfl rfl) rfl (by kernel_rfl) ?_
          refine xm_take 30 (m' := 2147483647) rfl (by kernel_rfl) (by first | exact Sb.refl | exact Sb.nil | (repeat (first | exact Sb.nil | exact Sb.refl | exact Sb.app0 | apply Sb.keep | apply Sb.keepApp | apply Sb.cons | apply Sb.app))) (rd_move rfl) rfl (by kernel_rfl) ?_
          refine xm_gone 31 (m' := 4294967295) rfl (by kernel_rfl) rfl rfl rfl (by kernel_rfl) (ef_call rfl (XF.mono (xk_joins none 0 0 [] rfl PbR.nil (by decide)) ?_))
          rintro v L' ⟨rfl, rfl⟩
          refine ⟨(by first | exact Sb.refl | exact Sb.nil | (repeat (first | exact Sb.nil | exact Sb.refl | exact Sb.app0 | apply Sb.keep | apply Sb.keepApp | apply Sb.cons | apply Sb.app))), ?_⟩
          refine xm_take 32 (m' := 8589934591) rfl (by kernel_rfl) (by first | exact Sb.refl | exact Sb.nil | (repeat (first | exact Sb.nil | exact Sb.refl | exact Sb.app0 | apply Sb.keep | apply Sb.keepApp | apply Sb.cons | apply Sb.app))) (rd_pickt rfl rfl) rfl (by kernel_rfl) ?_
          refine xm_take 33 (m' := 17179869183) rfl (by kernel_rfl) (by first | exact Sb.refl | exact Sb.nil | (repeat (first | exact Sb.nil | exact Sb.refl | exact Sb.app0 | apply Sb.keep | apply Sb.keepApp | apply Sb.cons | apply Sb.app))) (rd_move rfl) rfl (by kernel_rfl) ?_
          refine xm_gone 34 (m' := 34359738367) rfl (by kernel_rfl) rfl rfl rfl (by kernel_rfl) (ef_call rfl (XF.mono (xk_splits none 0 0 [] rfl Rs.nil (fun x hx => by cases hx) (Nat.le_refl _) (by decide)) ?_))
          rintro v L' ⟨rfl, rfl⟩
          refine ⟨(by first | exact Sb.refl | exact Sb.nil | (repeat (first | exact Sb.nil | exact Sb.refl | exact Sb.app0 | apply Sb.keep | apply Sb.keepApp | apply Sb.cons | apply Sb.app))), ?_⟩
          refine xm_take 35 (m' := 68719476735) rfl (by kernel_rfl) (by first | exact Sb.refl | exact Sb.nil | (repeat (first | exact Sb.nil | exact Sb.refl | exact Sb.app0 | apply Sb.keep | apply Sb.keepApp | apply Sb.cons | apply Sb.app))) (rd_pickt rfl rfl) rfl (by kernel_rfl) ?_
          refine xm_take 36 (m' := 137438953471) rfl (by kernel_rfl) (by first | exact Sb.refl | exact Sb.nil | (repeat (first | exact Sb.nil | exact Sb.refl | exact Sb.app0 | apply Sb.keep | apply Sb.keepApp | apply Sb.cons | apply Sb.app))) (rd_move rfl) rfl (by kernel_rfl) ?_
          refine xm_gone 37 (m' := 274877906943) rfl (by kernel_rfl) rfl rfl rfl (by kernel_rfl) (ef_call rfl (XF.mono (xf_any (fun W => xf_works)) ?_))
          rintro v L' ⟨rfl, rfl⟩
          refine ⟨(by first | exact Sb.refl | exact Sb.nil | (repeat (first | exact Sb.nil | exact Sb.refl | exact Sb.app0 | apply Sb.keep | apply Sb.keepApp | apply Sb.cons | apply Sb.app))), ?_⟩
          refine xm_take 38 (m' := 549755813887) rfl (by kernel_rfl) (by first | exact Sb.refl | exact Sb.nil | (repeat (first | exact Sb.nil | exact Sb.refl | exact Sb.app0 | apply Sb.keep | apply Sb.keepApp | apply Sb.cons | apply Sb.app))) (rd_pickt rfl rfl) rfl (by kernel_rfl) ?_
          refine xm_take 39 (m' := 1099511627775) rfl (by kernel_rfl) (by first | exact Sb.refl | exact Sb.nil | (repeat (first | exact Sb.nil | exact Sb.refl | exact Sb.app0 | apply Sb.keep | apply Sb.keepApp | apply Sb.cons | apply Sb.app))) (rd_assign rfl) rfl (by kernel_rfl) ?_
          refine xm_done (by kernel_rfl) ?_
          refine xq_seq ?_
          refine xc_ret ?_
          exact xq_ret1 (.inl rfl) Try.results7 rfl (rfl)
          refine xm_one 1 (m' := 251) rfl (by kernel_rfl) rfl (by kernel_rfl) (ef_buildL (T := 51) (len := 1) (s := 7) (vs := [(0, .agg (Bk.enc (Bk.tot 8388608)).toArray)]) (cells := ([Bk.tot 8388608].flatMap Bk.enc).toArray) rfl (by decide) (by decide) (by kernel_rfl) fun r319 => ?_)
          refine ⟨(by first | exact Sb.refl | exact Sb.nil | (repeat (first | exact Sb.nil | exact Sb.refl | exact Sb.app0 | apply Sb.keep | apply Sb.keepApp | apply Sb.cons | apply Sb.app))), ?_⟩
          refine xm_take 2 (m' := 255) rfl (by kernel_rfl) (by first | exact Sb.refl | exact Sb.nil | (repeat (first | exact Sb.nil | exact Sb.refl | exact Sb.app0 | apply Sb.keep | apply Sb.keepApp | apply Sb.cons | apply Sb.app))) (rd_build rfl rfl rfl) rfl (by kernel_rfl) ?_
          refine xm_one 8 (m' := 511) rfl (by kernel_rfl) rfl (by kernel_rfl) (ef_call rfl (XF.mono (xk_puts ⟨0, 0, 0, 0, 0, [Bk.tot (8388608)]⟩ (Sn.bls_rg fun b hb => by simp only [List.mem_cons, List.not_mem_nil, or_false] at hb; rw [hb]; exact Bk.tot_rg (by decide) (by decide)) (some ⟨r319, 0, none⟩) 1 1 rfl (Rs.fresh (T := 95) (fr := (0, 0)) (by simp)) (by decide) (some ⟨r323, 0, none⟩) 1 1 [⟨0, lg⟩] rfl (Rs.fresh (T := 97) (fr := (0, 0)) (by simp)) (fun x hx => by rw [List.mem_singleton.1 hx]; exact (show U4 0 from ⟨by decide, by decide⟩)) (by decide) ⟨[], lg⟩ none 0 0 rfl Rs.nil (fun x hx => by cases hx) (Nat.zero_le _) (by first | (dsimp only; omega) | exact Nat.zero_le _)) ?_))
          rintro v L' ⟨rfl, rfl⟩
          refine ⟨(by first | exact Sb.refl | exact Sb.nil | (repeat (first | exact Sb.nil | exact Sb.refl | exact Sb.app0 | apply Sb.keep | apply Sb.keepApp | apply Sb.cons | apply Sb.app))), ?_⟩
          refine xm_take 9 (m' := 1023) rfl (by kernel_rfl) (by first | exact Sb.refl | exact Sb.nil | (repeat (first | exact Sb.nil | exact Sb.refl | exact Sb.app0 | apply Sb.keep | apply Sb.keepApp | apply Sb.cons | apply Sb.app))) (rd_move rfl) rfl (by kernel_rfl) ?_
          refine xm_gtake 10 (m' := 2047) rfl (by kernel_rfl) (by first | exact Sb.refl | exact Sb.nil | (repeat (first | exact Sb.nil | exact Sb.refl | exact Sb.app0 | apply Sb.keep | apply Sb.keepApp | apply Sb.cons | apply Sb.app))) rfl rfl (rd_build rfl rfl rfl) rfl (by kernel_rfl) ?_
          refine xm_gtake 13 (m' := 10239) rfl (by kernel_rfl) (by first | exact Sb.refl | exact Sb.nil | (repeat (first | exact Sb.nil | exact Sb.refl | exact Sb.app0 | apply Sb.keep | apply Sb.keepApp | apply Sb.cons | apply Sb.app))) rfl rfl (rd_move rfl) rfl (by kernel_rfl) ?_
          refine xm_gtake 14 (m' := 26623) rfl (by kernel_rfl) (by first | exact Sb.refl | exact Sb.nil | (repeat (first | exact Sb.nil | exact Sb.refl | exact Sb.app0 | apply Sb.keep | apply Sb.keepApp | apply Sb.cons | apply Sb.app))) rfl rfl (rd_cast (v' := .string l2) (rd_strLo rfl rfl (by omega) (by omega)) (congrArg Value.string hl2)) rfl (by kernel_rfl) ?_
          refine xm_gtake 15 (m' := 59391) rfl (by kernel_rfl) (by first | exact Sb.refl | exact Sb.nil | (repeat (first | exact Sb.nil | exact Sb.refl | exact Sb.app0 | apply Sb.keep | apply Sb.keepApp | apply Sb.cons | apply Sb.app))) rfl rfl (rd_build rfl rfl rfl) rfl (by kernel_rfl) ?_
          refine xm_gtake 17 (m' := 190463) rfl (by kernel_rfl) (by first | exact Sb.refl | exact Sb.nil | (repeat (first | exact Sb.nil | exact Sb.refl | exact Sb.app0 | apply Sb.keep | apply Sb.keepApp | apply Sb.cons | apply Sb.app))) rfl rfl (rd_move rfl) rfl (by kernel_rfl) ?_
          refine xm_gtake 18 (m' := 452607) rfl (by kernel_rfl) (by first | exact Sb.refl | exact Sb.nil | (repeat (first | exact Sb.nil | exact Sb.refl | exact Sb.app0 | apply Sb.keep | apply Sb.keepApp | apply Sb.cons | apply Sb.app))) rfl rfl (rd_cast (v' := .string l2) (rd_strLo rfl rfl (by omega) (by omega)) (congrArg Value.string hl2)) rfl (by kernel_rfl) ?_
          refine xm_gtake 19 (m' := 976895) rfl (by kernel_rfl) (by first | exact Sb.refl | exact Sb.nil | (repeat (first | exact Sb.nil | exact Sb.refl | exact Sb.app0 | apply Sb.keep | apply Sb.keepApp | apply Sb.cons | apply Sb.app))) rfl rfl (rd_build rfl rfl rfl) rfl (by kernel_rfl) ?_
          refine xm_l2 11 16 (by kernel_rfl) (xms_gef 11 (m' := 978943) rfl rfl rfl rfl (by kernel_rfl) (ef_buildL (T := 51) (len := 1) (s := 7) (vs := [(0, .agg (Bk.enc (Bk.tot (-8388609))).toArray)]) (cells := ([Bk.tot (-8388609)].flatMap Bk.enc).toArray) rfl (by decide) (by decide) (by kernel_rfl) fun r329 => ⟨(by first | exact Sb.refl | exact Sb.nil | (repeat (first | exact Sb.nil | exact Sb.refl | exact Sb.app0 | apply Sb.keep | apply Sb.keepApp | apply Sb.cons | apply Sb.app))), ?_⟩)) (xms_gef 16 (m' := 1042431) rfl rfl rfl rfl (by kernel_rfl) (ef_buildL (T := 54) (len := 1) (s := 2) (vs := [(0, .agg (Ck.enc ⟨0, l2⟩).toArray)]) (cells := (([⟨0, l2⟩] : List Ck).flatMap Ck.enc).toArray) rfl (by decide) (by decide) (by kernel_rfl) fun r334 => ⟨(by first | exact Sb.refl | exact Sb.nil | (repeat (first | exact Sb.nil | exact Sb.refl | exact Sb.app0 | apply Sb.keep | apply Sb.keepApp | apply Sb.cons | apply Sb.app))), ?_⟩))
          refine xm_gtake 12 (m' := 983039) rfl (by kernel_rfl) (by first | exact Sb.refl | exact Sb.nil | (repeat (first | exact Sb.nil | exact Sb.refl | exact Sb.app0 | apply Sb.keep | apply Sb.keepApp | apply Sb.cons | apply Sb.app))) rfl rfl (rd_build rfl rfl rfl) rfl (by kernel_rfl) ?_
          refine xm_gone 16 (m' := 1048575) rfl (by kernel_rfl) rfl rfl rfl (by kernel_rfl) (ef_buildL (T := 54) (len := 1) (s := 2) (vs := [(0, .agg (Ck.enc ⟨0, l2⟩).toArray)]) (cells := (([⟨0, l2⟩] : List Ck).flatMap Ck.enc).toArray) rfl (by decide) (by decide) (by kernel_rfl) fun r334 => ?_)
          refine ⟨(by first | exact Sb.refl | exact Sb.nil | (repeat (first | exact Sb.nil | exact Sb.refl | exact Sb.app0 | apply Sb.keep | apply Sb.keepApp | apply Sb.cons | apply Sb.app))), ?_⟩
          refine xm_gone 20 (m' := 2097151) rfl (by kernel_rfl) rfl rfl rfl (by kernel_rfl) (ef_call rfl (XF.mono (xk_puts ⟨0, 0, 0, 0, 0, [Bk.tot (-8388609)]⟩ (Sn.bls_rg fun b hb => by simp only [List.mem_cons, List.not_mem_nil, or_false] at hb; rw [hb]; exact Bk.tot_rg (by decide) (by decide)) (some ⟨r329, 0, none⟩) 1 1 rfl (Rs.fresh (T := 95) (fr := (0, 0)) (by simp)) (by decide) (some ⟨r334, 0, none⟩) 1 1 [⟨0, l2⟩] rfl (Rs.fresh (T := 97) (fr := (0, 0)) (by simp)) (fun x hx => by rw [List.mem_singleton.1 hx]; exact (show U4 0 from ⟨by decide, by decide⟩)) (by decide) ⟨[], l2⟩ none 0 0 rfl Rs.nil (fun x hx => by cases hx) (Nat.zero_le _) (by first | (dsimp only; omega) | exact Nat.zero_le _)) ?_))
          rintro v L' ⟨rfl, rfl⟩
          refine ⟨(by first | exact Sb.refl | exact Sb.nil | (repeat (first | exact Sb.nil | exact Sb.refl | exact Sb.app0 | apply Sb.keep | apply Sb.keepApp | apply Sb.cons | apply Sb.app))), ?_⟩
          refine xm_take 21 (m' := 4194303) rfl (by kernel_rfl) (by first | exact Sb.refl | exact Sb.nil | (repeat (first | exact Sb.nil | exact Sb.refl | exact Sb.app0 | apply Sb.keep | apply Sb.keepApp | apply Sb.cons | apply Sb.app))) (rd_pickt rfl rfl) rfl (by kernel_rfl) ?_
          refine xm_take 22 (m' := 8388607) rfl (by kernel_rfl) (by first | exact Sb.refl | exact Sb.nil | (repeat (first | exact Sb.nil | exact Sb.refl | exact Sb.app0 | apply Sb.keep | apply Sb.keepApp | apply Sb.cons | apply Sb.app))) (rd_move rfl) rfl (by kernel_rfl) ?_
          refine xm_gtake 23 (m' := 16777215) rfl (by kernel_rfl) (by first | exact Sb.refl | exact Sb.nil | (repeat (first | exact Sb.nil | exact Sb.refl | exact Sb.app0 | apply Sb.keep | apply Sb.keepApp | apply Sb.cons | apply Sb.app))) rfl rfl (rd_build rfl rfl rfl) rfl (by kernel_rfl) ?_
          refine xm_gtake 24 (m' := 33554431) rfl (by kernel_rfl) (by first | exact Sb.refl | exact Sb.nil | (repeat (first | exact Sb.nil | exact Sb.refl | exact Sb.app0 | apply Sb.keep | apply Sb.keepApp | apply Sb.cons | apply Sb.app))) rfl rfl (rd_build rfl rfl rfl) rfl (by kernel_rfl) ?_
          refine xm_gtake 27 (m' := 167772159) rfl (by kernel_rfl) (by first | exact Sb.refl | exact Sb.nil | (repeat (first | exact Sb.nil | exact Sb.refl | exact Sb.app0 | apply Sb.keep | apply Sb.keepApp | apply Sb.cons | apply Sb.app))) rfl rfl (rd_build rfl rfl rfl) rfl (by kernel_rfl) ?_
          refine xm_gone 25 (m' := 201326591) rfl (by kernel_rfl) rfl rfl rfl (by kernel_rfl) (ef_buildL (T := 51) (len := 2) (s := 7) (vs := [(0, .agg (Bk.enc (Bk.tot (-8388608))).toArray), (1, .agg (Bk.enc (Bk.tot 8388607)).toArray)]) (cells := ([Bk.tot (-8388608), Bk.tot 8388607].flatMap Bk.enc).toArray) rfl (by decide) (by decide) (by kernel_rfl) fun r343 => ?_)
          refine ⟨(by first | exact Sb.refl | exact Sb.nil | (repeat (first | exact Sb.nil | exact Sb.refl | exact Sb.app0 | apply Sb.keep | apply Sb.keepApp | apply Sb.cons | apply Sb.app))), ?_⟩
          refine xm_gtake 26 (m' := 268435455) rfl (by kernel_rfl) (by first | exact Sb.refl | exact Sb.nil | (repeat (first | exact Sb.nil | exact Sb.refl | exact Sb.app0 | apply Sb.keep | apply Sb.keepApp | apply Sb.cons | apply Sb.app))) rfl rfl (rd_build rfl rfl rfl) rfl (by kernel_rfl) ?_
          refine xm_gone 28 (m' := 536870911) rfl (by kernel_rfl) rfl rfl rfl (by kernel_rfl) (ef_call rfl (XF.mono (xk_puts ⟨0, 0, 0, 0, 0, [Bk.tot (-8388608), Bk.tot (8388607)]⟩ (Sn.bls_rg fun b hb => by simp only [List.mem_cons, List.not_mem_nil, or_false] at hb; rcases hb with rfl | rfl <;> exact Bk.tot_rg (by decide) (by decide)) (some ⟨r343, 0, none⟩) 2 2 rfl (Rs.fresh (T := 95) (fr := (0, 0)) (by simp)) (by decide) none 0 0 [] rfl Rs.nil (fun x hx => by cases hx) (by decide) ⟨[], ⟨#[]⟩⟩ none 0 0 rfl Rs.nil (fun x hx => by cases hx) (Nat.zero_le _) (by first | (dsimp only; omega) | exact Nat.zero_le _)) ?_))
          rintro v L' ⟨rfl, rfl⟩
          refine ⟨(by first | exact Sb.refl | exact Sb.nil | (repeat (first | exact Sb.nil | exact Sb.refl | exact Sb.app0 | apply Sb.keep | apply Sb.keepApp | apply Sb.cons | apply Sb.app))), ?_⟩
          refine xm_take 29 (m' := 1073741823) rfl (by kernel_rfl) (by first | exact Sb.refl | exact Sb.nil | (repeat (first | exact Sb.nil | exact Sb.refl | exact Sb.app0 | apply Sb.keep | apply Sb.keepApp | apply Sb.cons | apply Sb.app))) (rd_pickt rfl rfl) rfl (by kernel_rfl) ?_
          refine xm_take 30 (m' := 2147483647) rfl (by kernel_rfl) (by first | exact Sb.refl | exact Sb.nil | (repeat (first | exact Sb.nil | exact Sb.refl | exact Sb.app0 | apply Sb.keep | apply Sb.keepApp | apply Sb.cons | apply Sb.app))) (rd_move rfl) rfl (by kernel_rfl) ?_
          refine xm_gone 31 (m' := 4294967295) rfl (by kernel_rfl) rfl rfl rfl (by kernel_rfl) (ef_call rfl (XF.mono (xk_joins none 0 0 [] rfl PbR.nil (by decide)) ?_))
          rintro v L' ⟨rfl, rfl⟩
          refine ⟨(by first | exact Sb.refl | exact Sb.nil | (repeat (first | exact Sb.nil | exact Sb.refl | exact Sb.app0 | apply Sb.keep | apply Sb.keepApp | apply Sb.cons | apply Sb.app))), ?_⟩
          refine xm_take 32 (m' := 8589934591) rfl (by kernel_rfl) (by first | exact Sb.refl | exact Sb.nil | (repeat (first | exact Sb.nil | exact Sb.refl | exact Sb.app0 | apply Sb.keep | apply Sb.keepApp | apply Sb.cons | apply Sb.app))) (rd_pickt rfl rfl) rfl (by kernel_rfl) ?_
          refine xm_take 33 (m' := 17179869183) rfl (by kernel_rfl) (by first | exact Sb.refl | exact Sb.nil | (repeat (first | exact Sb.nil | exact Sb.refl | exact Sb.app0 | apply Sb.keep | apply Sb.keepApp | apply Sb.cons | apply Sb.app))) (rd_move rfl) rfl (by kernel_rfl) ?_
          refine xm_gone 34 (m' := 34359738367) rfl (by kernel_rfl) rfl rfl rfl (by kernel_rfl) (ef_call rfl (XF.mono (xk_splits none 0 0 [] rfl Rs.nil (fun x hx => by cases hx) (Nat.le_refl _) (by decide)) ?_))
          rintro v L' ⟨rfl, rfl⟩
          refine ⟨(by first | exact Sb.refl | exact Sb.nil | (repeat (first | exact Sb.nil | exact Sb.refl | exact Sb.app0 | apply Sb.keep | apply Sb.keepApp | apply Sb.cons | apply Sb.app))), ?_⟩
          refine xm_take 35 (m' := 68719476735) rfl (by kernel_rfl) (by first | exact Sb.refl | exact Sb.nil | (repeat (first | exact Sb.nil | exact Sb.refl | exact Sb.app0 | apply Sb.keep | apply Sb.keepApp | apply Sb.cons | apply Sb.app))) (rd_pickt rfl rfl) rfl (by kernel_rfl) ?_
          refine xm_take 36 (m' := 137438953471) rfl (by kernel_rfl) (by first | exact Sb.refl | exact Sb.nil | (repeat (first | exact Sb.nil | exact Sb.refl | exact Sb.app0 | apply Sb.keep | apply Sb.keepApp | apply Sb.cons | apply Sb.app))) (rd_move rfl) rfl (by kernel_rfl) ?_
          refine xm_gone 37 (m' := 274877906943) rfl (by kernel_rfl) rfl rfl rfl (by kernel_rfl) (ef_call rfl (XF.mono (xf_any (fun W => xf_works)) ?_))
          rintro v L' ⟨rfl, rfl⟩
          refine ⟨(by first | exact Sb.refl | exact Sb.nil | (repeat (first | exact Sb.nil | exact Sb.refl | exact Sb.app0 | apply Sb.keep | apply Sb.keepApp | apply Sb.cons | apply Sb.app))), ?_⟩
          refine xm_take 38 (m' := 549755813887) rfl (by kernel_rfl) (by first | exact Sb.refl | exact Sb.nil | (repeat (first | exact Sb.nil | exact Sb.refl | exact Sb.app0 | apply Sb.keep | apply Sb.keepApp | apply Sb.cons | apply Sb.app))) (rd_pickt rfl rfl) rfl (by kernel_rfl) ?_
          refine xm_take 39 (m' := 1099511627775) rfl (by kernel_rfl) (by first | exact Sb.refl | exact Sb.nil | (repeat (first | exact Sb.nil | exact Sb.refl | exact Sb.app0 | apply Sb.keep | apply Sb.keepApp | apply Sb.cons | apply Sb.app))) (rd_assign rfl) rfl (by kernel_rfl) ?_
          refine xm_done (by kernel_rfl) ?_
          refine xq_seq ?_
          refine xc_ret ?_
          exact xq_ret1 (.inl rfl) Try.results7 rfl (rfl)
          refine xm_gone 11 (m' := 1044479) rfl (by kernel_rfl) rfl rfl rfl (by kernel_rfl) (ef_buildL (T := 51) (len := 1) (s := 7) (vs := [(0, .agg (Bk.enc (Bk.tot (-8388609))).toArray)]) (cells := ([Bk.tot (-8388609)].flatMap Bk.enc).toArray) rfl (by decide) (by decide) (by kernel_rfl) fun r329 => ?_)
          refine ⟨(by first | exact Sb.refl | exact Sb.nil | (repeat (first | exact Sb.nil | exact Sb.refl | exact Sb.app0 | apply Sb.keep | apply Sb.keepApp | apply Sb.cons | apply Sb.app))), ?_⟩
          refine xm_gtake 12 (m' := 1048575) rfl (by kernel_rfl) (by first | exact Sb.refl | exact Sb.nil | (repeat (first | exact Sb.nil | exact Sb.refl | exact Sb.app0 | apply Sb.keep | apply Sb.keepApp | apply Sb.cons | apply Sb.app))) rfl rfl (rd_build rfl rfl rfl) rfl (by kernel_rfl) ?_
          refine xm_gone 20 (m' := 2097151) rfl (by kernel_rfl) rfl rfl rfl (by kernel_rfl) (ef_call rfl (XF.mono (xk_puts ⟨0, 0, 0, 0, 0, [Bk.tot (-8388609)]⟩ (Sn.bls_rg fun b hb => by simp only [List.mem_cons, List.not_mem_nil, or_false] at hb; rw [hb]; exact Bk.tot_rg (by decide) (by decide)) (some ⟨r329, 0, none⟩) 1 1 rfl (Rs.fresh (T := 95) (fr := (0, 0)) (by simp)) (by decide) (some ⟨r334, 0, none⟩) 1 1 [⟨0, l2⟩] rfl (Rs.fresh (T := 97) (fr := (0, 0)) (by simp)) (fun x hx => by rw [List.mem_singleton.1 hx]; exact (show U4 0 from ⟨by decide, by decide⟩)) (by decide) ⟨[], l2⟩ none 0 0 rfl Rs.nil (fun x hx => by cases hx) (Nat.zero_le _) (by first | (dsimp only; omega) | exact Nat.zero_le _)) ?_))
          rintro v L' ⟨rfl, rfl⟩
          refine ⟨(by first | exact Sb.refl | exact Sb.nil | (repeat (first | exact Sb.nil | exact Sb.refl | exact Sb.app0 | apply Sb.keep | apply Sb.keepApp | apply Sb.cons | apply Sb.app))), ?_⟩
          refine xm_take 21 (m' := 4194303) rfl (by kernel_rfl) (by first | exact Sb.refl | exact Sb.nil | (repeat (first | exact Sb.nil | exact Sb.refl | exact Sb.app0 | apply Sb.keep | apply Sb.keepApp | apply Sb.cons | apply Sb.app))) (rd_pickt rfl rfl) rfl (by kernel_rfl) ?_
          refine xm_take 22 (m' := 8388607) rfl (by kernel_rfl) (by first | exact Sb.refl | exact Sb.nil | (repeat (first | exact Sb.nil | exact Sb.refl | exact Sb.app0 | apply Sb.keep | apply Sb.keepApp | apply Sb.cons | apply Sb.app))) (rd_move rfl) rfl (by kernel_rfl) ?_
          refine xm_gtake 23 (m' := 16777215) rfl (by kernel_rfl) (by first | exact Sb.refl | exact Sb.nil | (repeat (first | exact Sb.nil | exact Sb.refl | exact Sb.app0 | apply Sb.keep | apply Sb.keepApp | apply Sb.cons | apply Sb.app))) rfl rfl (rd_build rfl rfl rfl) rfl (by kernel_rfl) ?_
          refine xm_gtake 24 (m' := 33554431) rfl (by kernel_rfl) (by first | exact Sb.refl | exact Sb.nil | (repeat (first | exact Sb.nil | exact Sb.refl | exact Sb.app0 | apply Sb.keep | apply Sb.keepApp | apply Sb.cons | apply Sb.app))) rfl rfl (rd_build rfl rfl rfl) rfl (by kernel_rfl) ?_
          refine xm_gtake 27 (m' := 167772159) rfl (by kernel_rfl) (by first | exact Sb.refl | exact Sb.nil | (repeat (first | exact Sb.nil | exact Sb.refl | exact Sb.app0 | apply Sb.keep | apply Sb.keepApp | apply Sb.cons | apply Sb.app))) rfl rfl (rd_build rfl rfl rfl) rfl (by kernel_rfl) ?_
          refine xm_gone 25 (m' := 201326591) rfl (by kernel_rfl) rfl rfl rfl (by kernel_rfl) (ef_buildL (T := 51) (len := 2) (s := 7) (vs := [(0, .agg (Bk.enc (Bk.tot (-8388608))).toArray), (1, .agg (Bk.enc (Bk.tot 8388607)).toArray)]) (cells := ([Bk.tot (-8388608), Bk.tot 8388607].flatMap Bk.enc).toArray) rfl (by decide) (by decide) (by kernel_rfl) fun r343 => ?_)
          refine ⟨(by first | exact Sb.refl | exact Sb.nil | (repeat (first | exact Sb.nil | exact Sb.refl | exact Sb.app0 | apply Sb.keep | apply Sb.keepApp | apply Sb.cons | apply Sb.app))), ?_⟩
          refine xm_gtake 26 (m' := 268435455) rfl (by kernel_rfl) (by first | exact Sb.refl | exact Sb.nil | (repeat (first | exact Sb.nil | exact Sb.refl | exact Sb.app0 | apply Sb.keep | apply Sb.keepApp | apply Sb.cons | apply Sb.app))) rfl rfl (rd_build rfl rfl rfl) rfl (by kernel_rfl) ?_
          refine xm_gone 28 (m' := 536870911) rfl (by kernel_rfl) rfl rfl rfl (by kernel_rfl) (ef_call rfl (XF.mono (xk_puts ⟨0, 0, 0, 0, 0, [Bk.tot (-8388608), Bk.tot (8388607)]⟩ (Sn.bls_rg fun b hb => by simp only [List.mem_cons, List.not_mem_nil, or_false] at hb; rcases hb with rfl | rfl <;> exact Bk.tot_rg (by decide) (by decide)) (some ⟨r343, 0, none⟩) 2 2 rfl (Rs.fresh (T := 95) (fr := (0, 0)) (by simp)) (by decide) none 0 0 [] rfl Rs.nil (fun x hx => by cases hx) (by decide) ⟨[], ⟨#[]⟩⟩ none 0 0 rfl Rs.nil (fun x hx => by cases hx) (Nat.zero_le _) (by first | (dsimp only; omega) | exact Nat.zero_le _)) ?_))
          rintro v L' ⟨rfl, rfl⟩
          refine ⟨(by first | exact Sb.refl | exact Sb.nil | (repeat (first | exact Sb.nil | exact Sb.refl | exact Sb.app0 | apply Sb.keep | apply Sb.keepApp | apply Sb.cons | apply Sb.app))), ?_⟩
          refine xm_take 29 (m' := 1073741823) rfl (by kernel_rfl) (by first | exact Sb.refl | exact Sb.nil | (repeat (first | exact Sb.nil | exact Sb.refl | exact Sb.app0 | apply Sb.keep | apply Sb.keepApp | apply Sb.cons | apply Sb.app))) (rd_pickt rfl rfl) rfl (by kernel_rfl) ?_
          refine xm_take 30 (m' := 2147483647) rfl (by kernel_rfl) (by first | exact Sb.refl | exact Sb.nil | (repeat (first | exact Sb.nil | exact Sb.refl | exact Sb.app0 | apply Sb.keep | apply Sb.keepApp | apply Sb.cons | apply Sb.app))) (rd_move rfl) rfl (by kernel_rfl) ?_
          refine xm_gone 31 (m' := 4294967295) rfl (by kernel_rfl) rfl rfl rfl (by kernel_rfl) (ef_call rfl (XF.mono (xk_joins none 0 0 [] rfl PbR.nil (by decide)) ?_))
          rintro v L' ⟨rfl, rfl⟩
          refine ⟨(by first | exact Sb.refl | exact Sb.nil | (repeat (first | exact Sb.nil | exact Sb.refl | exact Sb.app0 | apply Sb.keep | apply Sb.keepApp | apply Sb.cons | apply Sb.app))), ?_⟩
          refine xm_take 32 (m' := 8589934591) rfl (by kernel_rfl) (by first | exact Sb.refl | exact Sb.nil | (repeat (first | exact Sb.nil | exact Sb.refl | exact Sb.app0 | apply Sb.keep | apply Sb.keepApp | apply Sb.cons | apply Sb.app))) (rd_pickt rfl rfl) rfl (by kernel_rfl) ?_
          refine xm_take 33 (m' := 17179869183) rfl (by kernel_rfl) (by first | exact Sb.refl | exact Sb.nil | (repeat (first | exact Sb.nil | exact Sb.refl | exact Sb.app0 | apply Sb.keep | apply Sb.keepApp | apply Sb.cons | apply Sb.app))) (rd_move rfl) rfl (by kernel_rfl) ?_
          refine xm_gone 34 (m' := 34359738367) rfl (by kernel_rfl) rfl rfl rfl (by kernel_rfl) (ef_call rfl (XF.mono (xk_splits none 0 0 [] rfl Rs.nil (fun x hx => by cases hx) (Nat.le_refl _) (by decide)) ?_))
          rintro v L' ⟨rfl, rfl⟩
          refine ⟨(by first | exact Sb.refl | exact Sb.nil | (repeat (first | exact Sb.nil | exact Sb.refl | exact Sb.app0 | apply Sb.keep | apply Sb.keepApp | apply Sb.cons | apply Sb.app))), ?_⟩
          refine xm_take 35 (m' := 68719476735) rfl (by kernel_rfl) (by first | exact Sb.refl | exact Sb.nil | (repeat (first | exact Sb.nil | exact Sb.refl | exact Sb.app0 | apply Sb.keep | apply Sb.keepApp | apply Sb.cons | apply Sb.app))) (rd_pickt rfl rfl) rfl (by kernel_rfl) ?_
          refine xm_take 36 (m' := 137438953471) rfl (by kernel_rfl) (by first | exact Sb.refl | exact Sb.nil | (repeat (first | exact Sb.nil | exact Sb.refl | exact Sb.app0 | apply Sb.keep | apply Sb.keepApp | apply Sb.cons | apply Sb.app))) (rd_move rfl) rfl (by kernel_rfl) ?_
          refine xm_gone 37 (m' := 274877906943) rfl (by kernel_rfl) rfl rfl rfl (by kernel_rfl) (ef_call rfl (XF.mono (xf_any (fun W => xf_works)) ?_))
          rintro v L' ⟨rfl, rfl⟩
          refine ⟨(by first | exact Sb.refl | exact Sb.nil | (repeat (first | exact Sb.nil | exact Sb.refl | exact Sb.app0 | apply Sb.keep | apply Sb.keepApp | apply Sb.cons | apply Sb.app))), ?_⟩
          refine xm_take 38 (m' := 549755813887) rfl (by kernel_rfl) (by first | exact Sb.refl | exact Sb.nil | (repeat (first | exact Sb.nil | exact Sb.refl | exact Sb.app0 | apply Sb.keep | apply Sb.keepApp | apply Sb.cons | apply Sb.app))) (rd_pickt rfl rfl) rfl (by kernel_rfl) ?_
          refine xm_take 39 (m' := 1099511627775) rfl (by kernel_rfl) (by first | exact Sb.refl | exact Sb.nil | (repeat (first | exact Sb.nil | exact Sb.refl | exact Sb.app0 | apply Sb.keep | apply Sb.keepApp | apply Sb.cons | apply Sb.app))) (rd_assign rfl) rfl (by kernel_rfl) ?_
          refine xm_done (by kernel_rfl) ?_
          refine xq_seq ?_
          refine xc_ret ?_
          exact xq_ret1 (.inl rfl) Try.results7 rfl (rfl)
end Go.Proofs.Ytohlaabclifbfaa.X
