/-
  RtcpSplits: a walk of my own.
-/
import Derived.Test.YtohlaabclifbfaaB7
namespace Go.Proofs.Ytohlaabclifbfaa.X
open Go Go.RowKit
set_option linter.unusedVariables false
set_option linter.unusedSimpArgs false
theorem perm_mv2 (a b c d e : List Blk) : (a ++ (b ++ (c ++ (d ++ e)))).Perm (b ++ (c ++ ((a ++ d) ++ e))) := (by classical exact List.perm_iff_count.2 fun a => by simp only [List.append_eq, List.count_append, List.count_cons, List.count_nil, List.cons_append, List.nil_append, List.flatMap_append, List.flatMap_cons, List.flatMap_nil, List.append_nil]; omega)
theorem bls_drop (xs : List Pb) (i : Nat) (h : i < xs.length) : bls (xs.drop i) = xs[i].l ++ bls (xs.drop (i + 1)) := by
  rw [List.drop_eq_getElem_cons h]; rfl
theorem splitL_bd : ∀ (k : Nat) (f : Bool) (b : List Int) (q : Pc), q ∈ (splitL k f b).1 → q.bd.length ≤ b.length
  | 0, _, _, q, h => by cases h
  | k + 1, f, b, q, h => by
    unfold splitL at h
    split at h
    · cases h
    · split at h
      · cases h
      · rename_i h0
        have h0' : (takeP b f).1 = 0 := by simpa using h0
        have hl := takeP_len h0'
        split at h
        · cases h
        · rcases List.mem_cons.1 h with h | h
          · rw [h]
            rcases b with _ | ⟨b0, _ | ⟨b1, _ | ⟨b2, _ | ⟨b3, t⟩⟩⟩⟩
            · exact Nat.zero_le _
            · exact Nat.zero_le _
            · exact Nat.zero_le _
            · exact Nat.zero_le _
            · show (takeT b0 b1 (4 * vl [b2, b3]).toNat t f).2.1.bd.length ≤ t.length + 1 + 1 + 1 + 1
              unfold takeT
              split
              · exact Nat.zero_le _
              · split
                · exact Nat.zero_le _
                · split
                  · exact Nat.zero_le _
                  · split
                    · split
                      · exact Nat.zero_le _
                      · dsimp only; rw [List.length_take]; omega
                    · dsimp only; rw [List.length_take]; omega
          · have := splitL_bd k false _ q h
            omega
theorem splitL_few : ∀ (k : Nat) (f : Bool) (b : List Int), 4 * (splitL k f b).1.length ≤ b.length
  | 0, _, _ => Nat.zero_le _
  | k + 1, f, b => by
    unfold splitL
    split
    · exact Nat.zero_le _
    · split
      · exact Nat.zero_le _
      · rename_i h0
        have h0' : (takeP b f).1 = 0 := by simpa using h0
        have hl := takeP_len h0'
        split
        · exact Nat.zero_le _
        · have := splitL_few k false (takeP b f).2.2
          simp only [List.length_cons]
          omega
set_option maxHeartbeats 8000000 in
theorem xf_RtcpSplits {W : World} (p : Option Addr) (m c : Nat) (bs : List Int) (hx : bs.length = m) (hr : Rs W [] p (ints .u8 bs)) (hb : ∀ x, x ∈ bs → By x) (hc : m ≤ c) (hm : m ≤ 9223372036854775807) : XF Try.prog W 3 #[.slice p m c] [] (fun v L' => v = .bool true) := by
  refine xf_enter (args := [_]) Try.func3 rfl Try.ntmps3 rfl ?_
  have hr' : ∀ L, Rs W L p (ints .u8 bs) := fun L => hr.nilL
  focus
    refine xc_seq ?_
    refine xc_region ?_
    refine xo_rd (rd_assign rfl) rfl ?_
    refine xo_nil ?_
    refine xq_seq ?_
    refine xc_seq ?_
    refine xc_seq ?_
    refine xc_region ?_
    refine xo_rd (rd_move rfl) rfl ?_
    refine xo_rd (rd_len rfl) rfl ?_
    refine xo_rd (rd_gtr rfl rfl) rfl ?_
    refine xo_nil ?_
    refine xq_seq ?_
    refine xc_dec rfl (fun hh1 => ?_) (fun hh1 => ?_)
    refine xc_seq ?_
    refine xc_region ?_
    refine xo_ef rfl (ef_call rfl (XF.mono (xf_any (fun W => xf_works)) ?_))
    rintro v L' ⟨rfl, rfl⟩
    refine xo_rd (rd_assign rfl) rfl ?_
    refine xo_nil ?_
    refine xq_seq ?_
    refine xc_ret ?_
    refine xq_then_ret ?_
    exact xq_ret1 (.inl rfl) Try.results3 rfl (rfl)
    refine xc_skip ?_
    refine xq_seq ?_
  have hm2 : m ≤ 2000 := by omega
  obtain ⟨⟨qs, e⟩, hz⟩ : ∃ z, splitL (bs.length + 1) true bs = z := ⟨_, rfl⟩
  have hqb : ∀ q, q ∈ qs → q.bd.length ≤ m := fun q h => by have := splitL_bd (bs.length + 1) true bs q (by rw [hz]; exact h); omega
  have hqn : qs.length ≤ m := by have := splitL_few (bs.length + 1) true bs; rw [hz] at this; dsimp only at this; omega
  focus
    refine xc_seq ?_
    refine xc_region ?_
    refine xo_rd (rd_move rfl) rfl ?_
    refine xo_ef rfl (ef_call rfl (XF.mono (xf_own p m c (ints .u8 bs) (by rw [ints_len, hx, Nat.mul_one]) (hr' _) (ints_one _ _) (by omega)) ?_))
    rintro v L' ⟨po, co, lo, rfl, hOo, hco, rfl⟩
    refine xo_rd (rd_assign rfl) rfl ?_
    refine xo_nil ?_
    refine xq_seq ?_
    refine xc_seq ?_
    refine xc_region ?_
    refine xo_rd (rd_move rfl) rfl ?_
    refine xo_ef rfl (ef_call rfl (XF.mono (xf_rsplit2 po m co bs qs e hz hx (hOo.rs (by intro z hz; simp [hz])) hb hco (by omega)) ?_))
    rintro v L' ⟨ys, sy, ky, ly, rfl, hyq, hyo, hyr, hys, rfl⟩
    refine xo_rd (rd_move rfl) rfl ?_
    refine xo_rd (rd_extract rfl rfl) rfl ?_
    refine xo_rd (rd_extract rfl rfl) rfl ?_
    refine xo_rd (rd_assign rfl) rfl ?_
    refine xo_rd (rd_assign rfl) rfl ?_
    refine xo_nil ?_
    refine xq_seq ?_
    refine xc_seq ?_
    refine xc_seq ?_
    refine xc_region ?_
    refine xo_rd (rd_assign rfl) rfl ?_
    refine xo_nil ?_
    refine xq_seq ?_
    refine xc_block ?_
  have hyf : ∀ y, y ∈ ys → y.q.bd.length ≤ 1000000 := fun y hy => by have := hqb y.q (by rw [← hyq]; exact List.mem_map_of_mem hy); omega
  have hyP : PbR W (ly ++ (bls ys ++ (lo ++ []))) sy ys := PbR.own hys hyo hyr hyf
  refine xc_loopK (ι := Nat) (fun t => t ≤ 2) (fun t => 2 - t) (fun t => [(0, .slice p m c), (3, .slice po m co), (4, .slice sy ys.length ky), (5, .int .i64 e), (6, .int .i64 t)]) 0 (by decide) (by repeat (first | exact keep_nil | refine keep_cons rfl ?_)) ?_
  intro t ht
  focus
    refine xc_seq ?_
    refine xc_seq ?_
    refine xc_region ?_
    refine xo_rd (rd_move rfl) rfl ?_
    refine xo_rd (rd_lss rfl rfl) rfl ?_
    refine xo_nil ?_
    refine xq_seq ?_
    refine xc_dec rfl (fun hi1 => ?_) (fun hi1 => ?_)
    refine xc_skip ?_
    refine xq_seq ?_
    refine xc_seq ?_
    refine xc_block ?_
    refine xc_seq ?_
    refine xc_region ?_
    refine xo_rd (rd_move rfl) rfl ?_
    refine xo_ef rfl (ef_call rfl (XF.mono (xf_split2 p m c bs qs e hz hx (hr' _) hb hc (by omega)) ?_))
    rintro v L' ⟨xs, s, k, l, rfl, hxq, hxo, hxr, hxs, rfl⟩
    refine xo_rd (rd_move rfl) rfl ?_
    refine xo_rd (rd_extract rfl rfl) rfl ?_
    refine xo_rd (rd_extract rfl rfl) rfl ?_
    refine xo_rd (rd_assign rfl) rfl ?_
    refine xo_rd (rd_assign rfl) rfl ?_
    refine xo_nil ?_
    refine xq_seq ?_
    refine xc_seq ?_
    refine xc_seq ?_
    refine xc_region ?_
    refine xo_rd (rd_move rfl) rfl ?_
    refine xo_rd (rd_move rfl) rfl ?_
    refine xo_rd (rd_neq rfl rfl) rfl ?_
    refine xo_rd (rd_move rfl) rfl ?_
    refine xo_ndec 33 rfl (fun h => absurd rfl h) (fun _ => ?_)
    refine xo_grd rfl rfl (rd_move rfl) rfl ?_
    refine xo_grd rfl rfl (rd_move rfl) rfl ?_
    refine xo_gef rfl rfl rfl (ef_call rfl (XF.mono (xf_sameRs s sy xs.length ys.length k ky xs ys true (by rw [hxq, hyq]; exact decide_eq_true rfl) rfl rfl (PbR.own hxs hxo hxr (fun x h => by have := hqb x.q (by rw [← hxq]; exact List.mem_map_of_mem h); omega)) (hyP.mono fun z hz => List.mem_append_right _ (List.mem_append_right _ hz)) (by have := congrArg List.length hxq; simp at this; omega)) ?_))
    rintro v L' ⟨rfl, rfl⟩
    refine xo_grd rfl rfl (rd_not rfl) rfl ?_
    refine xo_rd (rd_pickf rfl rfl) rfl ?_
    refine xo_nil ?_
    refine xq_seq ?_
    refine xc_condf rfl ?_
    refine xc_skip ?_
    refine xq_seq ?_
    refine xc_seq ?_
    refine xc_region ?_
    refine xo_rd (rd_assign rfl) rfl ?_
    refine xo_nil ?_
    refine xq_seq ?_
    refine xc_block ?_
    rotate_left
    refine xc_exit ?_
    refine xq_then_exit ?_
    refine xq_then_exit ?_
    refine xq_block_hit ?_
    refine xq_seq ?_
    refine xc_seq ?_
    refine xc_region ?_
    refine xo_rd (rd_move rfl) rfl ?_
    refine xo_rd (rd_move rfl) rfl ?_
    refine xo_ef rfl (ef_call rfl (XF.mono (xf_samebytesT p po m m c co bs bs rfl hx hx (hr' _) (hOo.rs (by intro z hz; simp [hz])) (by omega)) ?_))
    rintro v L' ⟨rfl, rfl⟩
    refine xo_rd (rd_move rfl) rfl ?_
    refine xo_gef rfl rfl rfl (ef_call rfl (XF.mono (xf_any (fun W => xf_works)) ?_))
    rintro v L' ⟨rfl, rfl⟩
    refine xo_rd (rd_pickt rfl rfl) rfl ?_
    refine xo_rd (rd_assign rfl) rfl ?_
    refine xo_nil ?_
    refine xq_seq ?_
    refine xc_ret ?_
    exact xq_ret1 (.inl rfl) Try.results3 rfl (rfl)
  generalize hL0 : ly ++ (bls ys ++ (lo ++ [])) = L0 at *
  refine xc_loopI (ι := Nat × List Blk) (fun z => z.1 ≤ xs.length) (fun z => xs.length - z.1) (fun z => l ++ (bls (xs.drop z.1) ++ (z.2 ++ L0))) (fun z => [(0, .slice p m c), (3, .slice po m co), (4, .slice sy ys.length ky), (5, .int .i64 e), (6, .int .i64 t), (7, .slice s xs.length k), (9, .int .i64 z.1)]) (0, []) (Nat.zero_le _) rfl (by repeat (first | exact keep_nil | refine keep_cons rfl ?_)) ?_
  rintro ⟨i, G⟩ hi
  dsimp only at hi ⊢
  have hxl : xs.length ≤ m := by have := congrArg List.length hxq; simp at this; omega
  by_cases hin : i < xs.length
  · have hxo' := hxo xs[i] (List.getElem_mem _)
    have hbd := bls_drop xs i hin
    have hxb : xs[i].q.bd.length ≤ 1000000 := by have := hqb xs[i].q (by rw [← hxq]; exact List.mem_map_of_mem (List.getElem_mem _)); omega
    obtain ⟨b, o, hp, hcc⟩ := (hxs.rs (fun z hz => List.mem_append_left _ hz) : Rs W (l ++ (bls (xs.drop i) ++ (G ++ L0))) s (xs.flatMap Pb.enc)).rows Pb.len (by decide) (by omega)
    have hci := hcc i hin
    subst hp
    generalize xs[i] = x at *
    rw [hbd] at hci ⊢
    rw [List.append_assoc] at hci ⊢
    have hc2 := hci 2 (.slice x.p x.q.bd.length x.c) rfl
    focus
      refine xc_seq ?_
      refine xc_seq ?_
      refine xc_region ?_
      refine xo_rd (rd_move rfl) rfl ?_
      refine xo_rd (rd_move rfl) rfl ?_
      refine xo_rd (rd_len rfl) rfl ?_
      refine xo_rd (rd_lss rfl rfl) rfl ?_
      refine xo_nil ?_
      refine xq_seq ?_
      refine xc_dec rfl (fun h1 => ?_) (fun h1 => (by exfalso; omega))
      refine xc_skip ?_
      refine xq_seq ?_
      refine xc_seq ?_
      refine xc_block ?_
      refine xc_region ?_
      refine xo_rd (rd_move rfl) rfl ?_
      refine xo_rd (rd_move rfl) rfl ?_
      refine xo_rd (rd_indexAddr rfl rfl (by omega) (by omega)) rfl ?_
      refine xo_rd (rd_fieldAddr rfl) rfl ?_
      refine xo_rd (rd_load1 rfl hc2) rfl ?_
      refine xo_ef rfl (ef_call rfl (XF.mono (XF.seg l x.l _ (xf_spoil (.slice x.p x.q.bd.length x.c) x.q.bd.length (ints .u8 x.q.bd) x.l hxo' (by omega))) ?_))
      rintro v L' ⟨rfl, xs', l', hO', rfl⟩
      refine xo_perm (perm_mv2 l' l (bls (xs.drop (i + 1))) G L0) ?_
      refine xo_nil ?_
      refine xq_block ?_
      refine xq_seq ?_
      refine xc_region ?_
      refine xo_rd (rd_move rfl) rfl ?_
      refine xo_rd (rd_addn rfl rfl (by omega) (by omega)) rfl ?_
      refine xo_rd (rd_assign rfl) rfl ?_
      refine xo_nil ?_
    exact xq_roundI (i + 1, l' ++ G) (by dsimp only; omega) (by dsimp only; omega) rfl (by repeat (first | exact keep_nil | refine keep_cons rfl ?_))
  · focus
      refine xc_seq ?_
      refine xc_seq ?_
      refine xc_region ?_
      refine xo_rd (rd_move rfl) rfl ?_
      refine xo_rd (rd_move rfl) rfl ?_
      refine xo_rd (rd_len rfl) rfl ?_
      refine xo_rd (rd_lss rfl rfl) rfl ?_
      refine xo_nil ?_
      refine xq_seq ?_
      refine xc_dec rfl (fun h1 => (by exfalso; omega)) (fun h1 => ?_)
      refine xc_exit ?_
      refine xq_then_exit ?_
      refine xq_then_exit ?_
      refine xq_block_hit ?_
      refine xq_block ?_
      refine xq_seq ?_
      refine xc_region ?_
      refine xo_rd (rd_move rfl) rfl ?_
      refine xo_rd (rd_addn rfl rfl (by omega) (by omega)) rfl ?_
      refine xo_rd (rd_assign rfl) rfl ?_
      refine xo_nil ?_
    exact xq_roundK rfl (t + 1) (by omega) (by omega) ((List.sublist_append_right G L0).trans ((List.sublist_append_right _ _).trans (List.sublist_append_right l _))) (by repeat (first | exact keep_nil | refine keep_cons rfl ?_))
end Go.Proofs.Ytohlaabclifbfaa.X
