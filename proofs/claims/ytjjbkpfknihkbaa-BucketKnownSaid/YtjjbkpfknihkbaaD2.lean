/-
  BucketBounds: the walk of the law.
-/
import Derived.Test.YtjjbkpfknihkbaaD1
import Derived.Test.YtjjbkpfknihkbaaC0
namespace Go.Proofs.Ytjjbkpfknihkbaa.X
open Go Go.RowKit
set_option linter.unusedVariables false

set_option maxHeartbeats 8000000 in
theorem xf_BucketBounds {W : World} {L : List Blk} (a0 a1 a2 : Int) (p : Option Addr) (n c : Nat) (xs : List Act) (hx : xs.length = n) (hr : Rs W L p (xs.flatMap Act.enc)) (hall : ∀ x ∈ xs, InK .u64 x.f1 ∧ InK .u64 x.f2)
    (h0 : 0 ≤ a0) (h0' : a0 ≤ top) (h1 : 0 ≤ a1) (h1' : a1 ≤ top) (h2 : 0 ≤ a2) (h2' : a2 ≤ top) :
    XF Try.prog W 3 #[.int .u64 a0, .int .u64 a1, .int .u64 a2, .slice p n c] L (fun v L' => v = .bool true ∧ L' = L) := by
  refine xf_enter (args := [_, _, _, _]) Try.func3 rfl Try.ntmps3 rfl ?_
  refine xc_seq ?_
  refine xc_region ?_
  refine xo_rd (rd_assign rfl) rfl ?_
  refine xo_nil ?_
  refine xq_seq ?_
  refine xc_seq ?_
  refine xc_region ?_
  refine xo_rd (rd_move rfl) rfl ?_
  refine xo_rd (rd_move rfl) rfl ?_
  refine xo_rd (rd_move rfl) rfl ?_
  by_cases hb : a1 = 0
  · subst hb
    refine xo_ef rfl (ef_call rfl ((xf_new0 a0 a2).mono ?_))
    rintro v L' ⟨rfl, rfl⟩
    refine xo_rd (rd_move rfl) rfl ?_
    refine xo_rd (rd_extract rfl rfl) rfl ?_
    refine xo_rd (rd_extract rfl rfl) rfl ?_
    refine xo_rd (rd_assign rfl) rfl ?_
    refine xo_rd (rd_assign rfl) rfl ?_
    refine xo_nil ?_
    refine xq_seq ?_
    refine xc_seq ?_
    refine xc_seq ?_
    refine xc_region ?_
    refine xo_rd (rd_move rfl) rfl ?_
    refine xo_rd (rd_neq rfl rfl) rfl ?_
    refine xo_rd (rd_move rfl) rfl ?_
    refine xo_gskip rfl rfl rfl rfl ?_
    refine xo_gskip rfl rfl rfl rfl ?_
    refine xo_gskip rfl rfl rfl rfl ?_
    refine xo_rd (rd_pickt rfl rfl) rfl ?_
    refine xo_nil ?_
    refine xq_seq ?_
    refine xc_condt rfl ?_
    refine xc_seq ?_
    refine xc_region ?_
    refine xo_ef rfl (ef_call rfl (xf_works.mono ?_))
    rintro v L' ⟨rfl, rfl⟩
    refine xo_rd (rd_assign rfl) rfl ?_
    refine xo_nil ?_
    refine xq_seq ?_
    refine xc_ret ?_
    refine xq_then_ret ?_
    exact xq_ret1 (.inl rfl) Try.results3 rfl ⟨rfl, rfl⟩
  · refine xo_ef rfl (ef_call rfl ((xf_new a0 a1 a2 hb).mono ?_))
    rintro v L' ⟨pb, rfl, rfl⟩
    refine xo_rd (rd_move rfl) rfl ?_
    refine xo_rd (rd_extract rfl rfl) rfl ?_
    refine xo_rd (rd_extract rfl rfl) rfl ?_
    refine xo_rd (rd_assign rfl) rfl ?_
    refine xo_rd (rd_assign rfl) rfl ?_
    refine xo_nil ?_
    refine xq_seq ?_
    refine xc_seq ?_
    refine xc_seq ?_
    refine xc_region ?_
    refine xo_rd (rd_move rfl) rfl ?_
    refine xo_rd (rd_neq rfl rfl) rfl ?_
    refine xo_rd (rd_move rfl) rfl ?_
    refine xo_grd rfl rfl (rd_move rfl) rfl ?_
    refine xo_grd rfl rfl (rd_len rfl) rfl ?_
    refine xo_grd rfl rfl (rd_gtr rfl rfl) rfl ?_
    refine xo_rd (rd_pickf rfl rfl) rfl ?_
    refine xo_nil ?_
    refine xq_seq ?_
    refine xc_dec rfl (fun h => ?_) (fun h => ?_)
    · refine xc_seq ?_
      refine xc_region ?_
      refine xo_ef rfl (ef_call rfl (xf_works.mono ?_))
      rintro v L' ⟨rfl, rfl⟩
      refine xo_rd (rd_assign rfl) rfl ?_
      refine xo_nil ?_
      refine xq_seq ?_
      refine xc_ret ?_
      refine xq_then_ret ?_
      refine xq_tail ?_
      exact xq_ret1 (.inl rfl) Try.results3 rfl ⟨rfl, rfl⟩
    · refine xc_skip ?_
      refine xq_seq ?_
      refine xc_seq ?_
      refine xc_region ?_
      refine xo_rd (rd_assign rfl) rfl ?_
      refine xo_rd (rd_assign rfl) rfl ?_
      refine xo_nil ?_
      refine xq_seq ?_
      refine xc_seq ?_
      refine xc_seq ?_
      refine xc_region ?_
      refine xo_rd (rd_assign rfl) rfl ?_
      refine xo_nil ?_
      refine xq_seq ?_
      refine xc_block ?_
      have o0 : Bk.Ok ⟨a0, a1, a1, a2⟩ := Bk.Ok.new h0 h0' (by omega) h1' h2 h2'
      refine xc_loopI (ι := Nat × Bk × (List Int × List Int) × (Value × List Blk) × (Value × List Blk)) (fun s => s.1 ≤ n ∧ s.2.1.Ok ∧ s.2.1.r = a0 ∧ s.2.1.b = a1 ∧ Fit a0 a1 s.2.1.t s.2.1.a s.2.2.1.1 s.2.2.1.2 ∧ s.2.2.1.1.length ≤ s.1 ∧ SlO 1 22 s.2.2.2.1.1 s.2.2.1.1.length (s.2.2.1.1.map (Value.int .u64)) s.2.2.2.1.2 ∧ SlO 1 22 s.2.2.2.2.1 s.2.2.1.1.length (s.2.2.1.2.map (Value.int .u64)) s.2.2.2.2.2)
        (fun s => n - s.1) (fun s => s.2.1.at pb :: (s.2.2.2.1.2 ++ (s.2.2.2.2.2 ++ L))) (fun s => [(0, .int .u64 a0), (1, .int .u64 a1), (2, .int .u64 s.2.1.a), (3, .slice p n c), (9, .pointer (some ⟨pb, 0, none⟩)), (11, s.2.2.2.1.1), (12, s.2.2.2.2.1), (13, .int .i64 s.1)])
        (0, ⟨a0, a1, a1, a2⟩, ([], []), (.slice none 0 0, []), (.slice none 0 0, [])) ⟨Nat.zero_le _, o0, rfl, rfl, Fit.nil, Nat.zero_le _, SlO.nil, SlO.nil⟩ rfl (by repeat (first | exact keep_nil | refine keep_cons rfl ?_)) ?_
      rintro ⟨k, x, ⟨ats, tks⟩, ⟨v1, l1⟩, ⟨v2, l2⟩⟩ ⟨hk, hxo, hxr, hxb, hF, hm, hO1, hO2⟩
      dsimp only at hk hxo hxr hxb hF hm hO1 hO2 ⊢
      refine xc_seq ?_
      refine xc_seq ?_
      refine xc_region ?_
      refine xo_rd (rd_move rfl) rfl ?_
      refine xo_rd (rd_move rfl) rfl ?_
      refine xo_rd (rd_len rfl) rfl ?_
      refine xo_rd (rd_lss rfl rfl) rfl ?_
      refine xo_nil ?_
      refine xq_seq ?_
      refine xc_dec rfl (fun hlt => ?_) (fun hge => ?_)
      · have hkn : k < n := by omega
        obtain ⟨b, o, hp, hc⟩ := hr.row Act.len (by decide) (k := k) (by omega)
        subst hp
        have ha := hall xs[k] (List.getElem_mem _)
        generalize xs[k] = a at hc ha
        obtain ⟨⟨n0, n1⟩, ⟨t0, t1⟩⟩ := ha
        refine xc_skip ?_
        refine xq_seq ?_
        refine xc_seq ?_
        refine xc_block ?_
        refine xc_seq ?_
        refine xc_region ?_
        refine xo_rd (rd_move rfl) rfl ?_
        refine xo_rd (rd_move rfl) rfl ?_
        refine xo_rd (rd_move rfl) rfl ?_
        refine xo_rd (rd_indexAddr rfl rfl (by omega) (by omega)) rfl ?_
        refine xo_rd (rd_fieldAddr rfl) rfl ?_
        refine xo_rd (rd_load1 rfl (hc 2 _ rfl).app.app.skip) rfl ?_
        refine xo_rd (rd_max rfl rfl) rfl ?_
        refine xo_rd (rd_assign rfl) rfl ?_
        refine xo_nil ?_
        refine xq_seq ?_
        refine xc_seq ?_
        refine xc_seq ?_
        refine xc_region ?_
        refine xo_rd (rd_move rfl) rfl ?_
        refine xo_rd (rd_move rfl) rfl ?_
        have m0 : x.a ≤ (if a.f2 > x.a then a.f2 else x.a) := by split <;> omega
        have m1 : (if a.f2 > x.a then a.f2 else x.a) ≤ top := by
          have t1' : a.f2 ≤ top := t1
          have := hxo.a1
          split <;> omega
        generalize (if a.f2 > x.a then a.f2 else x.a) = now at *
        have hft := hxo.fill_t m0
        have hnow : 0 ≤ now := by have := hxo.a0; omega
        have hyo := hxo.fill hnow m1
        rw [hxr, hxb] at hft
        have hF' := hF.fill m0 hft.1
        refine xo_ef rfl (ef_call rfl ((xf_fill x pb now hxo hnow m1).mono ?_))
        rintro v L' ⟨rfl, rfl⟩
        generalize x.fill now = y at *
        obtain ⟨_, ya, yr, yb⟩ := hft
        subst ya
        have htb := hyo.tb
        refine xo_rd (rd_move rfl) rfl ?_
        refine xo_rd (rd_gtr rfl rfl) rfl ?_
        refine xo_nil ?_
        refine xq_seq ?_
        refine xc_dec rfl (fun h => absurd h (by omega)) (fun h => ?_)
        refine xc_skip ?_
        refine xq_seq ?_
        refine xc_seq ?_
        refine xc_seq ?_
        refine xc_region ?_
        refine xo_rd (rd_move rfl) rfl ?_
        refine xo_rd (rd_move rfl) rfl ?_
        refine xo_rd (rd_move rfl) rfl ?_
        refine xo_rd (rd_indexAddr rfl rfl (by omega) (by omega)) rfl ?_
        refine xo_rd (rd_fieldAddr rfl) rfl ?_
        refine xo_rd (rd_load1 rfl (hc 1 _ rfl).app.app.skip) rfl ?_
        skip
        refine xo_ef rfl (ef_call rfl ((xf_take y pb a.f1 hyo n0 n1).mono ?_))
        rintro v L' ⟨rfl, rfl⟩
        refine xo_nil ?_
        refine xq_seq ?_
        have hzo := hyo.take n0
        refine xc_dec rfl (fun hq => ?_) (fun hq => ?_)
        · have hz : y.take a.f1 = ⟨y.r, y.b, y.t - a.f1, y.a⟩ := if_pos hq
          have hq' : a.f1 ≤ y.t := hq
          have hF2 := hF'.take hnow n0 n1 hq' (by omega)
          have n0' : 0 ≤ a.f1 := n0
          rw [hz] at hzo ⊢
          refine xc_seq ?_
          refine xc_region ?_
          refine xo_rd (rd_move rfl) rfl ?_
          refine xo_rd (rd_move rfl) rfl ?_
          refine xo_ef rfl (ef_slice1 rfl rfl rfl fun r2 => ?_)
          skip
          refine xo_ef rfl (ef_append [_, _] _ l1 (news := [.int .u64 y.a]) rfl rfl hO1 rfl (Rs.fresh (List.Mem.head _)) rfl rfl (by decide) (by omega) (by omega) fun v1' l1' hO1' => ?_)
          refine xo_rd (rd_assign rfl) rfl ?_
          refine xo_nil ?_
          refine xq_seq ?_
          refine xc_region ?_
          refine xo_rd (rd_move rfl) rfl ?_
          refine xo_rd (rd_move rfl) rfl ?_
          refine xo_rd (rd_move rfl) rfl ?_
          refine xo_rd (rd_indexAddr rfl rfl (by omega) (by omega)) rfl ?_
          refine xo_rd (rd_fieldAddr rfl) rfl ?_
          refine xo_rd (rd_load1 rfl (hc 1 _ rfl).app.app.skip.skip) rfl ?_
          skip
          refine xo_ef rfl (ef_slice1 rfl rfl rfl fun r3 => ?_)
          skip
          refine xo_ef rfl (ef_append (_ :: _ :: _ :: l1') _ l2 (news := [.int .u64 a.f1]) rfl rfl hO2 rfl (Rs.fresh (List.Mem.head _)) rfl rfl (by decide) (by omega) (by omega) fun v2' l2' hO2' => ?_)
          rw [show List.map (Value.int .u64) ats ++ [.int .u64 y.a] = List.map (Value.int .u64) (ats ++ [y.a]) by simp] at hO1'
          rw [show List.map (Value.int .u64) tks ++ [.int .u64 a.f1] = List.map (Value.int .u64) (tks ++ [a.f1]) by simp] at hO2'
          rw [show ats.length + 1 = (ats ++ [y.a]).length by simp] at hO1' hO2'
          refine xo_rd (rd_assign rfl) rfl ?_
          refine xo_nil ?_
          refine xq_seq ?_
          refine xc_seq ?_
          refine xc_region ?_
          refine xo_rd (rd_move rfl) rfl ?_
          refine xo_tail (xo_tail ?_)
          refine xo_ef rfl (ef_call rfl ((xf_tokens ⟨y.r, y.b, y.t - a.f1, y.a⟩ pb).mono ?_))
          rintro v L' ⟨rfl, rfl⟩
          refine xo_rd (rd_move rfl) rfl ?_
          refine xo_rd (rd_gtr rfl rfl) rfl ?_
          refine xo_nil ?_
          refine xq_seq ?_
          have htb2 := hzo.tb
          dsimp only at htb2
          refine xc_dec rfl (fun h => absurd h (by dsimp only; omega)) (fun h => ?_)
          refine xc_skip ?_
          refine xq_block ?_
          refine xq_seq ?_
          refine xc_region ?_
          refine xo_rd (rd_move rfl) rfl ?_
          refine xo_rd (rd_addn rfl rfl (by omega) (by omega)) rfl ?_
          refine xo_rd (rd_assign rfl) rfl ?_
          refine xo_nil ?_
          exact xq_roundI (k + 1, ⟨y.r, y.b, y.t - a.f1, y.a⟩, (ats ++ [y.a], tks ++ [a.f1]), (v1', l1'), (v2', l2')) ⟨hkn, hzo, yr, yb, hF2, by simp; omega, hO1', hO2'⟩ (by dsimp only; omega) rfl (by repeat (first | exact keep_nil | refine keep_cons rfl ?_))
        · rw [show y.take a.f1 = y from if_neg hq] at hzo ⊢
          refine xc_skip ?_
          refine xq_seq ?_
          refine xc_seq ?_
          refine xc_region ?_
          refine xo_rd (rd_move rfl) rfl ?_
          refine xo_ef rfl (ef_call rfl ((xf_tokens y pb).mono ?_))
          rintro v L' ⟨rfl, rfl⟩
          refine xo_rd (rd_move rfl) rfl ?_
          refine xo_rd (rd_gtr rfl rfl) rfl ?_
          refine xo_nil ?_
          refine xq_seq ?_
          refine xc_dec rfl (fun h => absurd h (by omega)) (fun h => ?_)
          refine xc_skip ?_
          refine xq_block ?_
          refine xq_seq ?_
          refine xc_region ?_
          refine xo_rd (rd_move rfl) rfl ?_
          refine xo_rd (rd_addn rfl rfl (by omega) (by omega)) rfl ?_
          refine xo_rd (rd_assign rfl) rfl ?_
          refine xo_nil ?_
          exact xq_roundI (k + 1, y, (ats, tks), (v1, l1), (v2, l2)) ⟨hkn, hzo, yr, yb, hF', by dsimp only; omega, hO1, hO2⟩ (by dsimp only; omega) rfl (by repeat (first | exact keep_nil | refine keep_cons rfl ?_))
      · refine xc_exit ?_
        refine xq_then_exit ?_
        refine xq_then_exit ?_
        refine xq_block_hit ?_
        refine xq_seq ?_
        refine xc_seq ?_
        refine xc_seq ?_
        refine xc_region ?_
        refine xo_rd (rd_assign rfl) rfl ?_
        refine xo_nil ?_
        refine xq_seq ?_
        refine xc_block ?_
        refine xc_tail ?_
        obtain ⟨pA, cA, rfl⟩ := hO1.val
        obtain ⟨pB, cB, rfl⟩ := hO2.val
        have hRA : Rs W (l1 ++ (l2 ++ L)) pA (ats.map (Value.int .u64)) := hO1.rs fun q hq => List.mem_append_left _ hq
        have hRB : Rs W (l1 ++ (l2 ++ L)) pB (tks.map (Value.int .u64)) := hO2.rs fun q hq => List.mem_append_right _ (List.mem_append_left _ hq)
        have hlen := hF.len
        clear hO1 hO2
        refine xc_loopI (ι := Nat) (fun i => i ≤ ats.length) (fun i => ats.length - i) (fun _ => l1 ++ (l2 ++ L)) (fun i => [(0, .int .u64 a0), (1, .int .u64 a1), (11, .slice pA ats.length cA), (12, .slice pB ats.length cB), (14, .int .i64 i)]) 0 (Nat.zero_le _) rfl (by repeat (first | exact keep_nil | refine keep_cons rfl ?_)) ?_
        intro i hi
        refine xc_seq ?_
        refine xc_seq ?_
        refine xc_region ?_
        refine xo_rd (rd_move rfl) rfl ?_
        refine xo_rd (rd_move rfl) rfl ?_
        refine xo_rd (rd_len rfl) rfl ?_
        refine xo_rd (rd_lss rfl rfl) rfl ?_
        refine xo_nil ?_
        refine xq_seq ?_
        refine xc_dec rfl (fun hlt => ?_) (fun hge => ?_)
        · refine xc_skip ?_
          refine xq_seq ?_
          refine xc_seq ?_
          refine xc_block ?_
          refine xc_seq ?_
          refine xc_region ?_
          refine xo_rd (rd_assign rfl) rfl ?_
          refine xo_nil ?_
          refine xq_seq ?_
          refine xc_seq ?_
          refine xc_region ?_
          refine xo_rd (rd_move rfl) rfl ?_
          refine xo_rd (rd_assign rfl) rfl ?_
          refine xo_nil ?_
          refine xq_seq ?_
          refine xc_block ?_
          refine xc_loopI (ι := Nat × Int) (fun s => i ≤ s.1 ∧ s.1 ≤ ats.length ∧ s.2 = sat (sm ((tks.drop i).take (s.1 - i)))) (fun s => ats.length - s.1) (fun _ => l1 ++ (l2 ++ L)) (fun s => [(0, .int .u64 a0), (1, .int .u64 a1), (11, .slice pA ats.length cA), (12, .slice pB ats.length cB), (14, .int .i64 i), (15, .int .u64 s.2), (16, .int .i64 s.1)]) (i, 0) ⟨Nat.le_refl _, hi, by simp [sm, sat]⟩ rfl (by repeat (first | exact keep_nil | refine keep_cons rfl ?_)) ?_
          rintro ⟨kk, s⟩ ⟨hik, hkm, hs⟩
          dsimp only at hik hkm hs ⊢
          refine xc_seq ?_
          refine xc_seq ?_
          refine xc_region ?_
          refine xo_rd (rd_move rfl) rfl ?_
          refine xo_rd (rd_move rfl) rfl ?_
          refine xo_rd (rd_len rfl) rfl ?_
          refine xo_rd (rd_lss rfl rfl) rfl ?_
          refine xo_nil ?_
          refine xq_seq ?_
          refine xc_dec rfl (fun hlt2 => ?_) (fun hge2 => ?_)
          · have hk1 : kk < ats.length := by omega
            have hi1 : i < ats.length := by omega
            have gi : ats[i]? = some ats[i] := List.getElem?_eq_getElem hi1
            have gk : ats[kk]? = some ats[kk] := List.getElem?_eq_getElem hk1
            have gt : tks[kk]? = some (tks[kk]'(by omega)) := List.getElem?_eq_getElem (by omega)
            have hfit := hF.fit i kk _ _ gi gk hik
            have hpos := hF.pos _ (List.mem_of_getElem? gt)
            have hai := hF.rng _ (List.mem_of_getElem? gi)
            have hak := hF.rng _ (List.mem_of_getElem? gk)
            have hxa := hxo.a1
            rw [sm_step hik gt] at hfit
            generalize ats[i] = ai at *
            generalize ats[kk] = ak at *
            generalize tks[kk]'(by omega) = tk at *
            obtain ⟨bA, oA, rfl, hcA⟩ := hRA.at (j := kk) (by simpa using hk1)
            obtain ⟨bB, oB, rfl, hcB⟩ := hRB.at (j := kk) (by simp; omega)
            have hA1 : Cl W (l1 ++ (l2 ++ L)) bA (oA + (kk : Int).toNat * 1) (.int .u64 ak) := by simpa using hcA kk (.int .u64 ak) (by simp [gk])
            have hA2 : Cl W (l1 ++ (l2 ++ L)) bA (oA + (i : Int).toNat * 1) (.int .u64 ai) := by simpa using hcA i (.int .u64 ai) (by simp [gi])
            have hB1 : Cl W (l1 ++ (l2 ++ L)) bB (oB + (kk : Int).toNat * 1) (.int .u64 tk) := by simpa using hcB kk (.int .u64 tk) (by simp [gt])
            have hq0 : 0 ≤ sm ((tks.drop i).take (kk - i)) := sm_nonneg _ fun x hx => (hF.pos x (List.mem_of_mem_drop (List.mem_of_mem_take hx))).1
            have hadd := sat_add hq0 hpos.1
            rw [← sm_step hik gt, ← hs] at hadd
            have hs' := sat_self (sm ((tks.drop i).take (kk + 1 - i)))
            have hs1 := sat_le (sm ((tks.drop i).take (kk + 1 - i)))
            have hs0 := sat_nonneg (q := sm ((tks.drop i).take (kk + 1 - i))) (by rw [sm_step hik gt]; omega)
            rw [← sm_step hik gt] at hfit
            have hsn := sat_nonneg hq0
            have hsl := sat_le (sm ((tks.drop i).take (kk - i)))
            rw [← hs] at hsn hsl
            have d0 := Int.mul_nonneg h0 (show 0 ≤ ak - ai by omega)
            have hmost := most_ge (b := a1) h1 d0 (Int.le_trans hs' hfit.1) hs1
            rw [← hadd] at hs' hs1 hs0 hmost
            have z1 : s + (if top - s < tk then top - s else tk) ≤ 18446744073709551615 := hs1
            have z2 : top - s ≤ 18446744073709551615 := by unfold top; omega
            have z3 : ak - ai ≤ 18446744073709551615 := by have : x.a ≤ 18446744073709551615 := hxa; omega
            have z4 : 0 ≤ ak - ai := by omega
            refine xc_skip ?_
            refine xq_seq ?_
            refine xc_seq ?_
            refine xc_block ?_
            refine xc_seq ?_
            refine xc_draw (l1 ++ (l2 ++ L)) ?_
            refine xr_take 0 rfl (by kernel_rfl) (by kernel_rfl) (by kernel_rfl) (by first | exact Sb.refl | exact Sb.nil | (repeat (first | exact Sb.nil | exact Sb.refl | apply Sb.keep | apply Sb.cons))) (rd_move rfl) rfl ?_
            refine xr_take 1 rfl (by kernel_rfl) (by kernel_rfl) (by kernel_rfl) (by first | exact Sb.refl | exact Sb.nil | (repeat (first | exact Sb.nil | exact Sb.refl | apply Sb.keep | apply Sb.cons))) (rd_move rfl) rfl ?_
            refine xr_take 2 rfl (by kernel_rfl) (by kernel_rfl) (by kernel_rfl) (by first | exact Sb.refl | exact Sb.nil | (repeat (first | exact Sb.nil | exact Sb.refl | apply Sb.keep | apply Sb.cons))) (rd_move rfl) rfl ?_
            refine xr_take 3 rfl (by kernel_rfl) (by kernel_rfl) (by kernel_rfl) (by first | exact Sb.refl | exact Sb.nil | (repeat (first | exact Sb.nil | exact Sb.refl | apply Sb.keep | apply Sb.cons))) (rd_indexAddr rfl rfl (by omega) (by omega)) rfl ?_
            refine xr_take 4 rfl (by kernel_rfl) (by kernel_rfl) (by kernel_rfl) (by first | exact Sb.refl | exact Sb.nil | (repeat (first | exact Sb.nil | exact Sb.refl | apply Sb.keep | apply Sb.cons))) (rd_load1 rfl hB1) rfl ?_
            refine xr_take 6 rfl (by kernel_rfl) (by kernel_rfl) (by kernel_rfl) (by first | exact Sb.refl | exact Sb.nil | (repeat (first | exact Sb.nil | exact Sb.refl | apply Sb.keep | apply Sb.cons))) (rd_move rfl) rfl ?_
            refine xr_one 5 rfl (by kernel_rfl) rfl ?_
            refine ef_call rfl (xf_top.mono ?_)
            rintro v L' ⟨rfl, rfl⟩
            refine ⟨(by first | exact Sb.refl | exact Sb.nil | (repeat (first | exact Sb.nil | exact Sb.refl | apply Sb.keep | apply Sb.cons))), ?_⟩
            refine xr_take 7 rfl (by kernel_rfl) (by kernel_rfl) (by kernel_rfl) (by first | exact Sb.refl | exact Sb.nil | (repeat (first | exact Sb.nil | exact Sb.refl | apply Sb.keep | apply Sb.cons))) (rd_subn rfl rfl (by omega) (by omega)) rfl ?_
            refine xr_take 8 rfl (by kernel_rfl) (by kernel_rfl) (by kernel_rfl) (by first | exact Sb.refl | exact Sb.nil | (repeat (first | exact Sb.nil | exact Sb.refl | apply Sb.keep | apply Sb.cons))) (rd_min rfl rfl) rfl ?_
            refine xr_take 9 rfl (by kernel_rfl) (by kernel_rfl) (by kernel_rfl) (by first | exact Sb.refl | exact Sb.nil | (repeat (first | exact Sb.nil | exact Sb.refl | apply Sb.keep | apply Sb.cons))) (rd_addn rfl rfl (by omega) (by omega)) rfl ?_
            refine xr_take 10 rfl (by kernel_rfl) (by kernel_rfl) (by kernel_rfl) (by first | exact Sb.refl | exact Sb.nil | (repeat (first | exact Sb.nil | exact Sb.refl | apply Sb.keep | apply Sb.cons))) (rd_assign rfl) rfl ?_
            refine xr_done (by kernel_rfl) ?_
            refine xq_seq ?_
            refine xc_seq ?_
            refine xc_draw (l1 ++ (l2 ++ L)) ?_
            refine xr_take 0 rfl (by kernel_rfl) (by kernel_rfl) (by kernel_rfl) (by first | exact Sb.refl | exact Sb.nil | (repeat (first | exact Sb.nil | exact Sb.refl | apply Sb.keep | apply Sb.cons))) (rd_move rfl) rfl ?_
            refine xr_take 1 rfl (by kernel_rfl) (by kernel_rfl) (by kernel_rfl) (by first | exact Sb.refl | exact Sb.nil | (repeat (first | exact Sb.nil | exact Sb.refl | apply Sb.keep | apply Sb.cons))) (rd_move rfl) rfl ?_
            refine xr_take 2 rfl (by kernel_rfl) (by kernel_rfl) (by kernel_rfl) (by first | exact Sb.refl | exact Sb.nil | (repeat (first | exact Sb.nil | exact Sb.refl | apply Sb.keep | apply Sb.cons))) (rd_move rfl) rfl ?_
            refine xr_take 3 rfl (by kernel_rfl) (by kernel_rfl) (by kernel_rfl) (by first | exact Sb.refl | exact Sb.nil | (repeat (first | exact Sb.nil | exact Sb.refl | apply Sb.keep | apply Sb.cons))) (rd_move rfl) rfl ?_
            refine xr_take 4 rfl (by kernel_rfl) (by kernel_rfl) (by kernel_rfl) (by first | exact Sb.refl | exact Sb.nil | (repeat (first | exact Sb.nil | exact Sb.refl | apply Sb.keep | apply Sb.cons))) (rd_move rfl) rfl ?_
            refine xr_take 5 rfl (by kernel_rfl) (by kernel_rfl) (by kernel_rfl) (by first | exact Sb.refl | exact Sb.nil | (repeat (first | exact Sb.nil | exact Sb.refl | apply Sb.keep | apply Sb.cons))) (rd_indexAddr rfl rfl (by omega) (by omega)) rfl ?_
            refine xr_take 6 rfl (by kernel_rfl) (by kernel_rfl) (by kernel_rfl) (by first | exact Sb.refl | exact Sb.nil | (repeat (first | exact Sb.nil | exact Sb.refl | apply Sb.keep | apply Sb.cons))) (rd_load1 rfl hA1) rfl ?_
            refine xr_take 7 rfl (by kernel_rfl) (by kernel_rfl) (by kernel_rfl) (by first | exact Sb.refl | exact Sb.nil | (repeat (first | exact Sb.nil | exact Sb.refl | apply Sb.keep | apply Sb.cons))) (rd_move rfl) rfl ?_
            refine xr_take 8 rfl (by kernel_rfl) (by kernel_rfl) (by kernel_rfl) (by first | exact Sb.refl | exact Sb.nil | (repeat (first | exact Sb.nil | exact Sb.refl | apply Sb.keep | apply Sb.cons))) (rd_move rfl) rfl ?_
            refine xr_take 9 rfl (by kernel_rfl) (by kernel_rfl) (by kernel_rfl) (by first | exact Sb.refl | exact Sb.nil | (repeat (first | exact Sb.nil | exact Sb.refl | apply Sb.keep | apply Sb.cons))) (rd_indexAddr rfl rfl (by omega) (by omega)) rfl ?_
            refine xr_take 10 rfl (by kernel_rfl) (by kernel_rfl) (by kernel_rfl) (by first | exact Sb.refl | exact Sb.nil | (repeat (first | exact Sb.nil | exact Sb.refl | apply Sb.keep | apply Sb.cons))) (rd_load1 rfl hA2) rfl ?_
            refine xr_take 11 rfl (by kernel_rfl) (by kernel_rfl) (by kernel_rfl) (by first | exact Sb.refl | exact Sb.nil | (repeat (first | exact Sb.nil | exact Sb.refl | apply Sb.keep | apply Sb.cons))) (rd_subn rfl rfl (by omega) (by omega)) rfl ?_
            refine xr_one 12 rfl (by kernel_rfl) rfl ?_
            refine ef_call rfl ((xf_most a0 a1 (ak - ai) h0 h0' h1 h1' z4 z3).mono ?_)
            rintro v L' ⟨rfl, rfl⟩
            refine ⟨(by first | exact Sb.refl | exact Sb.nil | (repeat (first | exact Sb.nil | exact Sb.refl | apply Sb.keep | apply Sb.cons))), ?_⟩
            refine xr_take 13 rfl (by kernel_rfl) (by kernel_rfl) (by kernel_rfl) (by first | exact Sb.refl | exact Sb.nil | (repeat (first | exact Sb.nil | exact Sb.refl | apply Sb.keep | apply Sb.cons))) (rd_gtr rfl rfl) rfl ?_
            refine xr_done (by kernel_rfl) ?_
            refine xq_seq ?_
            refine xc_dec rfl (fun h => absurd h (by omega)) (fun h => ?_)
            refine xc_skip ?_
            refine xq_block ?_
            refine xq_seq ?_
            refine xc_region ?_
            refine xo_rd (rd_move rfl) rfl ?_
            refine xo_rd (rd_addn rfl rfl (by omega) (by omega)) rfl ?_
            refine xo_rd (rd_assign rfl) rfl ?_
            refine xo_nil ?_
            exact xq_roundI (kk + 1, _) ⟨by dsimp only; omega, hk1, hadd⟩ (by dsimp only; omega) rfl (by repeat (first | exact keep_nil | refine keep_cons rfl ?_))
          · refine xc_exit ?_
            refine xq_then_exit ?_
            refine xq_then_exit ?_
            refine xq_block_hit ?_
            refine xq_block ?_
            refine xq_seq ?_
            refine xc_region ?_
            refine xo_rd (rd_move rfl) rfl ?_
            refine xo_rd (rd_addn rfl rfl (by omega) (by omega)) rfl ?_
            refine xo_rd (rd_assign rfl) rfl ?_
            refine xo_nil ?_
            exact xq_roundI (i + 1) (by omega) (by omega) rfl (by repeat (first | exact keep_nil | refine keep_cons rfl ?_))
        · refine xc_exit ?_
          refine xq_then_exit ?_
          refine xq_then_exit ?_
          refine xq_block_hit ?_
          refine xq_seq ?_
          refine xc_seq ?_
          refine xc_region ?_
          refine xo_ef rfl (ef_call rfl (xf_works.mono ?_))
          rintro v L' ⟨rfl, rfl⟩
          refine xo_rd (rd_assign rfl) rfl ?_
          refine xo_nil ?_
          refine xq_seq ?_
          refine xc_ret ?_
          refine xq_sub ((List.sublist_append_right l2 L).trans (List.sublist_append_right l1 _)) ?_
          exact xq_ret1 (.inl rfl) Try.results3 rfl ⟨rfl, rfl⟩
end Go.Proofs.Ytjjbkpfknihkbaa.X
