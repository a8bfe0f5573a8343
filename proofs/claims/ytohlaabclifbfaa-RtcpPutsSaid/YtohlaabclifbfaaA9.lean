/-
  Packets are written, by the reference and by the program: walks of my own.
-/
import Derived.Test.YtohlaabclifbfaaA8
namespace Go.Proofs.Ytohlaabclifbfaa.X
open Go Go.RowKit
set_option linter.unusedVariables false
set_option linter.unusedSimpArgs false
set_option maxHeartbeats 4000000 in
theorem xf_rput {W : World} {L : List Blk} (x : Pb) (h1 : Rs W L x.p (ints .u8 x.q.bd)) (hg : x.q.Rg) (hR : x.q.Right) :
    XF Try.prog W 52 #[.agg x.enc.toArray] L (fun v L' => ∃ s k l, v = .slice s (putP x.q).length k ∧ SlO 1 5 (.slice s (putP x.q).length k) (putP x.q).length (ints .u8 (putP x.q)) l ∧ L' = l ++ L) := by
  refine xf_enter (args := [_]) Try.func52 rfl Try.ntmps52 rfl ?_
  obtain ⟨q, p, c, _⟩ := x
  have hlp := putP_len q hg
  obtain ⟨ct, kd, bd, pd⟩ := q
  have g1 := hg.ct; have g2 := hg.kd; have g4 := hg.pd
  obtain ⟨e1, e2, e3, e4⟩ := hR
  dsimp only [By] at h1 g1 g2 g4 e1 e2 e3 e4 hlp
  dsimp only [Pb.enc, Pc.enc]
  focus
    refine xc_seq ?_
    refine xc_region ?_
    refine xo_ef rfl (ef_box rfl fun r1 => ?_)
    refine xo_rd (rd_assign rfl) rfl ?_
    refine xo_nil ?_
    refine xq_seq ?_
    refine xc_seq ?_
    refine xc_region ?_
    refine xo_rd (rd_fieldAddr rfl) rfl ?_
    refine xo_rd (rd_load1 rfl (Cl.o0 rfl)) rfl ?_
    refine xo_rd (rd_convn rfl (by omega) (by omega)) rfl ?_
    refine xo_rd (rd_addn rfl rfl (by omega) (by omega)) rfl ?_
    refine xo_rd (rd_assign rfl) rfl ?_
    refine xo_nil ?_
    refine xq_seq ?_
  refine xc_join (ι := Unit) (fun _ => True) (fun _ => (r1, .cells #[.int .u8 ct, .int .u8 kd, .slice p bd.length c, .int .u8 pd] 46 (0, 0)) :: L) (fun _ => [(1, .pointer (some ⟨r1, 0, none⟩)), (3, .int .i64 (fst6 ⟨ct, kd, bd, pd⟩))]) ?_ ?_
  · focus
      refine xc_seq ?_
      refine xc_region ?_
      refine xo_rd (rd_fieldAddr rfl) rfl ?_
      refine xo_rd (rd_load1 rfl (Cl.o0 rfl)) rfl ?_
      refine xo_rd (rd_gtr rfl rfl) rfl ?_
      refine xo_nil ?_
      refine xq_seq ?_
      refine xc_dec rfl (fun hw1 => ?_) (fun hw1 => ?_)
      refine xc_region ?_
      refine xo_rd (rd_move rfl) rfl ?_
      refine xo_rd (rd_addn rfl rfl (by omega) (by omega)) rfl ?_
      refine xo_rd (rd_assign rfl) rfl ?_
      refine xo_nil ?_
      rotate_left
      refine xc_skip ?_
      rotate_left
    · rw [show fst6 ⟨ct, kd, bd, pd⟩ = 128 + ct + 32 from by unfold fst6; rw [if_pos (by assumption)]]
      exact xq_joined () trivial rfl (by repeat (first | exact keep_nil | refine keep_cons rfl ?_))
    · rw [show fst6 ⟨ct, kd, bd, pd⟩ = 128 + ct from by unfold fst6; rw [if_neg (by assumption), Int.add_zero]]
      exact xq_joined () trivial rfl (by repeat (first | exact keep_nil | refine keep_cons rfl ?_))
  rintro _ _
  have hffr : 0 ≤ fst6 ⟨ct, kd, bd, pd⟩ ∧ fst6 ⟨ct, kd, bd, pd⟩ ≤ 255 := by unfold fst6; dsimp only; constructor <;> (split <;> omega)
  obtain ⟨ff, hff⟩ : ∃ ff, ff = fst6 ⟨ct, kd, bd, pd⟩ := ⟨_, rfl⟩
  rw [← hff] at hffr ⊢
  have hbx : ∀ L', (r1, .cells #[.int .u8 ct, .int .u8 kd, .slice p bd.length c, .int .u8 pd] 46 (0, 0)) ∈ L' → ∀ i v, [Value.int .u8 ct, .int .u8 kd, .slice p bd.length c, .int .u8 pd][i]? = some v → Cl W L' r1 i v := fun L' hL' i v hv => Cl.own hL' (by simpa using hv)
  focus
    refine xc_seq ?_
    refine xc_region ?_
    refine xo_rd (rd_move rfl) rfl ?_
    refine xo_rd (rd_convn rfl (by omega) (by omega)) rfl ?_
    refine xo_rd (rd_fieldAddr rfl) rfl ?_
    refine xo_rd (rd_load1 rfl (Cl.o0 rfl)) rfl ?_
    refine xo_ef rfl (ef_buildL (T := 22) (len := 2) (s := 1) (cells := (ints .u8 [ff, kd]).toArray) rfl (by decide) (by decide) (by kernel_rfl) fun r19 => ?_)
    refine xo_rd (rd_assign rfl) rfl ?_
    refine xo_nil ?_
    refine xq_seq ?_
  focus
    refine xc_seq ?_
    refine xc_region ?_
    refine xo_rd (rd_move rfl) rfl ?_
    refine xo_rd (rd_fieldAddr rfl) rfl ?_
    refine xo_rd (rd_load1 rfl (hbx _ (by simp) _ _ rfl)) rfl ?_
    refine xo_rd (rd_len rfl) rfl ?_
    refine xo_rd (rd_fieldAddr rfl) rfl ?_
    refine xo_rd (rd_load1 rfl (hbx _ (by simp) _ _ rfl)) rfl ?_
    refine xo_rd (rd_convn rfl (by omega) (by omega)) rfl ?_
    refine xo_rd (rd_addn rfl rfl (by omega) (by omega)) rfl ?_
    refine xo_rd (rd_quon rfl rfl (by omega) (by omega) (by omega) (by omega)) rfl ?_
    refine xo_rd (rd_convn rfl (by omega) (by omega)) rfl ?_
    refine xo_ef rfl (ef_call rfl (XF.mono (xf_bytes (((bd.length : Int) + pd) / 4) 2 (by omega) (by omega) (by omega)) ?_))
    rintro v L' ⟨pa, ca, la, rfl, hOa, rfl⟩
    refine xo_ef rfl (ef_appendG la ((r1, .cells #[.int .u8 ct, .int .u8 kd, .slice p bd.length c, .int .u8 pd] 46 (0, 0)) :: L) [(r19, .cells (ints .u8 [ff, kd]).toArray 5 (0, 0))] (news := ints .u8 (beK 2 (((bd.length : Int) + pd) / 4))) rfl rfl (SlO.lit rfl) rfl (hOa.rs (by intro z hz; simp [hz])) (by rw [ints_len, beK_len]) (ints_one _ _) (by decide) (by omega) (by omega) fun qb kb lb hOb hcb => ?_)
    refine xo_rd (rd_assign rfl) rfl ?_
    refine xo_nil ?_
    refine xq_seq ?_
  focus
    refine xc_seq ?_
    refine xc_region ?_
    refine xo_rd (rd_move rfl) rfl ?_
    refine xo_rd (rd_fieldAddr rfl) rfl ?_
    refine xo_rd (rd_load1 rfl (hbx _ (by simp) _ _ rfl)) rfl ?_
    refine xo_ef rfl (ef_appendG [] ((r1, .cells #[.int .u8 ct, .int .u8 kd, .slice p bd.length c, .int .u8 pd] 46 (0, 0)) :: L) lb (news := ints .u8 bd) rfl rfl hOb rfl (h1.mono (by intro z hz; simp [hz])) (by rw [ints_len, Nat.mul_one]) (ints_one _ _) (by decide) (by omega) (by omega) fun q3 k3 l3 hO3 hc3 => ?_)
    refine xo_rd (rd_assign rfl) rfl ?_
    refine xo_nil ?_
    refine xq_seq ?_
  rw [← ints_app, ← ints_app, beK_2] at hO3
  generalize hX3 : [ff, kd] ++ be2 (((bd.length : Int) + pd) / 4) ++ bd = X3 at hO3
  have hput : ∀ T, tailL pd = T → putP ⟨ct, kd, bd, pd⟩ = X3 ++ T := fun T h => by
    rw [← hX3, ← h, hff]
    simp only [putP, List.append_assoc]
  obtain ⟨n3, hn3⟩ : ∃ n3, n3 = 2 + 2 + bd.length := ⟨_, rfl⟩
  rw [← hn3] at hO3 ⊢
  refine xc_join (ι := OuS) (fun s => s.n ≤ n3 + 300 ∧ SlO 1 5 s.v s.n (ints .u8 (X3 ++ List.replicate (pd - 1).toNat 0)) s.l) (fun s => s.l ++ ((r1, .cells #[.int .u8 ct, .int .u8 kd, .slice p bd.length c, .int .u8 pd] 46 (0, 0)) :: L)) (fun s => [(1, .pointer (some ⟨r1, 0, none⟩)), (4, s.v)]) ?_ ?_
  · skip
    focus
      refine xc_seq ?_
      refine xc_region ?_
      refine xo_rd (rd_assign rfl) rfl ?_
      refine xo_nil ?_
      refine xq_seq ?_
      refine xc_block ?_
    refine xc_loopI (ι := OuS) (fun s => (s.k : Int) ≤ (pd - 1).toNat ∧ s.n = n3 + s.k ∧ SlO 1 5 s.v s.n (ints .u8 (X3 ++ List.replicate s.k 0)) s.l) (fun s => (pd - 1).toNat - s.k) (fun s => s.l ++ ((r1, .cells #[.int .u8 ct, .int .u8 kd, .slice p bd.length c, .int .u8 pd] 46 (0, 0)) :: L)) (fun s => [(1, .pointer (some ⟨r1, 0, none⟩)), (4, s.v), (5, .int .i64 ((s.k : Int) + 1))]) ⟨0, n3, _, l3⟩ ⟨by dsimp only; omega, rfl, by dsimp only; rw [List.replicate_zero, List.append_nil]; exact hO3⟩ rfl (by repeat (first | exact keep_nil | refine keep_cons rfl ?_)) ?_
    rintro ⟨k, n, v, l⟩ ⟨hk, hn, hO⟩
    dsimp only at hk hn hO ⊢
    subst hn
    focus
      refine xc_seq ?_
      refine xc_seq ?_
      refine xc_region ?_
      refine xo_rd (rd_move rfl) rfl ?_
      refine xo_rd (rd_fieldAddr rfl) rfl ?_
      refine xo_rd (rd_load1 rfl (hbx _ (by simp) _ _ rfl)) rfl ?_
      refine xo_rd (rd_convn rfl (by omega) (by omega)) rfl ?_
      refine xo_rd (rd_lss rfl rfl) rfl ?_
      refine xo_nil ?_
      refine xq_seq ?_
      refine xc_dec rfl (fun hw1 => ?_) (fun hw1 => ?_)
      refine xc_skip ?_
      refine xq_seq ?_
      refine xc_seq ?_
      refine xc_block ?_
      refine xc_region ?_
      refine xo_rd (rd_move rfl) rfl ?_
      refine xo_ef rfl (ef_slice1 rfl rfl rfl fun r44 => ?_)
      refine xo_ef rfl (ef_appendG [(r44, .cells #[.int .u8 0] 5 (0, 0))] ((r1, .cells #[.int .u8 ct, .int .u8 kd, .slice p bd.length c, .int .u8 pd] 46 (0, 0)) :: L) l (news := [.int .u8 0]) rfl rfl hO rfl (Rs.fresh (List.Mem.head _)) rfl rfl (by decide) (by omega) (by omega) fun qb kb lb hOb hcb => ?_)
      refine xo_rd (rd_assign rfl) rfl ?_
      refine xo_nil ?_
      refine xq_block ?_
      refine xq_seq ?_
      refine xc_region ?_
      refine xo_rd (rd_move rfl) rfl ?_
      refine xo_rd (rd_addn rfl rfl (by omega) (by omega)) rfl ?_
      refine xo_rd (rd_assign rfl) rfl ?_
      refine xo_nil ?_
      rotate_left
      refine xc_exit ?_
      refine xq_then_exit ?_
      refine xq_then_exit ?_
      refine xq_block_hit ?_
      rotate_left
    · refine xq_roundI (⟨k + 1, n3 + k + 1, _, lb⟩ : OuS) ⟨by dsimp only; omega, by dsimp only; omega, ?_⟩ (by dsimp only; omega) rfl (by repeat (first | exact keep_nil | refine keep_cons rfl ?_))
      dsimp only
      rw [List.replicate_succ', ← List.append_assoc, ints_app]
      exact hOb
    · have hkk : k = (pd - 1).toNat := by omega
      rw [← hkk]
      exact xq_joined (⟨k, n3 + k, v, l⟩ : OuS) ⟨by dsimp only; omega, hO⟩ rfl (by repeat (first | exact keep_nil | refine keep_cons rfl ?_))
  rintro ⟨_, n4, v4, l4⟩ ⟨hn4, hO4⟩
  dsimp only at hn4 hO4 ⊢
  focus
    refine xc_seq ?_
    refine xc_seq ?_
    refine xc_region ?_
    refine xo_rd (rd_fieldAddr rfl) rfl ?_
    refine xo_rd (rd_load1 rfl (hbx _ (by simp) _ _ rfl)) rfl ?_
    refine xo_rd (rd_gtr rfl rfl) rfl ?_
    refine xo_nil ?_
    refine xq_seq ?_
    refine xc_dec rfl (fun hw1 => ?_) (fun hw1 => ?_)
    refine xc_region ?_
    refine xo_rd (rd_move rfl) rfl ?_
    refine xo_rd (rd_fieldAddr rfl) rfl ?_
    refine xo_rd (rd_load1 rfl (hbx _ (by simp) _ _ rfl)) rfl ?_
    refine xo_ef rfl (ef_slice1 rfl rfl rfl fun r52 => ?_)
    refine xo_ef rfl (ef_appendG [(r52, .cells #[.int .u8 pd] 5 (0, 0))] _ l4 (news := [.int .u8 pd]) rfl rfl hO4 rfl (Rs.fresh (List.Mem.head _)) rfl rfl (by decide) (by omega) (by omega) fun qb kb lb hOb hcb => ?_)
    refine xo_rd (rd_assign rfl) rfl ?_
    refine xo_nil ?_
    refine xq_seq ?_
    refine xc_seq ?_
    refine xc_region ?_
    refine xo_rd (rd_move rfl) rfl ?_
    refine xo_rd (rd_assign rfl) rfl ?_
    refine xo_nil ?_
    refine xq_seq ?_
    refine xc_ret ?_
    rotate_left
    refine xc_skip ?_
    refine xq_seq ?_
    refine xc_seq ?_
    refine xc_region ?_
    refine xo_rd (rd_move rfl) rfl ?_
    refine xo_rd (rd_assign rfl) rfl ?_
    refine xo_nil ?_
    refine xq_seq ?_
    refine xc_ret ?_
    rotate_left
  · have hT : tailL pd = List.replicate (pd - 1).toNat 0 ++ [pd] := by unfold tailL; rw [if_pos (by omega)]
    rw [hput _ hT]
    rw [show ints .u8 (X3 ++ List.replicate (pd - 1).toNat 0) ++ [.int .u8 pd] = ints .u8 (X3 ++ (List.replicate (pd - 1).toNat 0 ++ [pd])) from by simp [ints]] at hOb
    have hle : (X3 ++ (List.replicate (pd - 1).toNat 0 ++ [pd])).length = n4 + 1 := by have := hOb.len; rw [ints_len] at this; omega
    rw [hle]
    exact xq_sub (L' := lb ++ L) (List.Sublist.append_left (List.sublist_cons_self _ _) lb) (xq_ret1 (.inl rfl) Try.results52 rfl ⟨qb, kb, lb, rfl, hOb, rfl⟩)
  · have hp0 : pd = 0 := by omega
    subst hp0
    have hT : tailL 0 = [] := rfl
    rw [hput _ hT, List.append_nil]
    rw [show ((0 : Int) - 1).toNat = 0 from rfl, List.replicate_zero, List.append_nil] at hO4
    obtain ⟨q4, k4, rfl, hO4, _⟩ := hO4.opn
    have hle : X3.length = n4 := by have := hO4.len; rw [ints_len] at this; omega
    rw [hle]
    exact xq_sub (L' := l4 ++ L) (List.Sublist.append_left (List.sublist_cons_self _ _) l4) (xq_ret1 (.inl rfl) Try.results52 rfl ⟨q4, k4, l4, rfl, hO4, rfl⟩)
set_option maxHeartbeats 4000000 in
theorem xf_mput {W : World} {L : List Blk} (x : Pb) (h1 : Rs W L x.p (ints .u8 x.q.bd)) (hg : x.q.Rg) (hR : x.q.Right) :
    XF Try.prog W 49 #[.agg x.enc.toArray] L (fun v L' => ∃ s k l, v = .slice s (putP x.q).length k ∧ SlO 1 5 (.slice s (putP x.q).length k) (putP x.q).length (ints .u8 (putP x.q)) l ∧ L' = l ++ L) := by
  refine xf_enter (args := [_]) Try.func49 rfl Try.ntmps49 rfl ?_
  obtain ⟨q, p, c, _⟩ := x
  have hlp := putP_len q hg
  obtain ⟨ct, kd, bd, pd⟩ := q
  have g1 := hg.ct; have g2 := hg.kd; have g4 := hg.pd
  obtain ⟨e1, e2, e3, e4⟩ := hR
  dsimp only [By] at h1 g1 g2 g4 e1 e2 e3 e4 hlp
  dsimp only [Pb.enc, Pc.enc]
  focus
    refine xc_seq ?_
    refine xc_region ?_
    refine xo_ef rfl (ef_box rfl fun r1 => ?_)
    refine xo_rd (rd_assign rfl) rfl ?_
    refine xo_nil ?_
    refine xq_seq ?_
    refine xc_seq ?_
    refine xc_region ?_
    refine xo_rd (rd_fieldAddr rfl) rfl ?_
    refine xo_rd (rd_load1 rfl (Cl.o0 rfl)) rfl ?_
    refine xo_rd (rd_cast (v' := .int .u8 (128 + ct)) (rd_or rfl rfl) (congrArg (Value.int .u8) (or8_128c ct g1.1 e1))) rfl ?_
    refine xo_rd (rd_assign rfl) rfl ?_
    refine xo_nil ?_
    refine xq_seq ?_
  refine xc_join (ι := Unit) (fun _ => True) (fun _ => (r1, .cells #[.int .u8 ct, .int .u8 kd, .slice p bd.length c, .int .u8 pd] 35 (0, 0)) :: L) (fun _ => [(1, .pointer (some ⟨r1, 0, none⟩)), (3, .int .u8 (fst6 ⟨ct, kd, bd, pd⟩))]) ?_ ?_
  · skip
    focus
      refine xc_seq ?_
      refine xc_region ?_
      refine xo_rd (rd_fieldAddr rfl) rfl ?_
      refine xo_rd (rd_load1 rfl (Cl.o0 rfl)) rfl ?_
      refine xo_rd (rd_gtr rfl rfl) rfl ?_
      refine xo_nil ?_
      refine xq_seq ?_
      refine xc_dec rfl (fun hw1 => ?_) (fun hw1 => ?_)
      refine xc_region ?_
      refine xo_rd (rd_move rfl) rfl ?_
      refine xo_rd (rd_cast (v' := .int .u8 (128 + ct + 32)) (rd_or rfl rfl) (congrArg (Value.int .u8) (or8_32 (128 + ct) (by omega) (by omega) (by omega)))) rfl ?_
      refine xo_rd (rd_assign rfl) rfl ?_
      refine xo_nil ?_
      rotate_left
      refine xc_skip ?_
      rotate_left
    · rw [show fst6 ⟨ct, kd, bd, pd⟩ = 128 + ct + 32 from by unfold fst6; rw [if_pos (by assumption)]]
      exact xq_joined () trivial rfl (by repeat (first | exact keep_nil | refine keep_cons rfl ?_))
    · rw [show fst6 ⟨ct, kd, bd, pd⟩ = 128 + ct from by unfold fst6; rw [if_neg (by assumption), Int.add_zero]]
      exact xq_joined () trivial rfl (by repeat (first | exact keep_nil | refine keep_cons rfl ?_))
  rintro _ _
  have hffr : 0 ≤ fst6 ⟨ct, kd, bd, pd⟩ ∧ fst6 ⟨ct, kd, bd, pd⟩ ≤ 255 := by unfold fst6; dsimp only; constructor <;> (split <;> omega)
  obtain ⟨ff, hff⟩ : ∃ ff, ff = fst6 ⟨ct, kd, bd, pd⟩ := ⟨_, rfl⟩
  rw [← hff] at hffr ⊢
  have hbx : ∀ L', (r1, .cells #[.int .u8 ct, .int .u8 kd, .slice p bd.length c, .int .u8 pd] 35 (0, 0)) ∈ L' → ∀ i v, [Value.int .u8 ct, .int .u8 kd, .slice p bd.length c, .int .u8 pd][i]? = some v → Cl W L' r1 i v := fun L' hL' i v hv => Cl.own hL' (by simpa using hv)
  obtain ⟨w, hw⟩ : ∃ w, w = ((bd.length : Int) + pd) / 4 := ⟨_, rfl⟩
  have hwb : 0 ≤ w ∧ w ≤ 65535 := by omega
  focus
    refine xc_seq ?_
    refine xc_region ?_
    refine xo_rd (rd_loadB rfl Kn.o0 (by rfl)) rfl ?_
    refine xo_ef rfl (ef_call rfl (XF.mono (xf_words ⟨ct, kd, bd, pd⟩ p c (by dsimp only; omega) g4) ?_))
    rintro v L' ⟨rfl, rfl⟩
    refine xo_rd (rd_assign rfl) rfl ?_
    refine xo_nil ?_
    refine xq_seq ?_
  rw [show ((Pc.mk ct kd bd pd).bd.length + (Pc.mk ct kd bd pd).pd) / 4 = w from hw.symm]
  focus
    refine xc_seq ?_
    refine xc_region ?_
    refine xo_rd (rd_move rfl) rfl ?_
    refine xo_rd (rd_fieldAddr rfl) rfl ?_
    refine xo_rd (rd_load1 rfl (Cl.o0 rfl)) rfl ?_
    refine xo_rd (rd_move rfl) rfl ?_
    refine xo_rd (rd_cast (v' := .int .i64 (w / 256)) (rd_shr rfl rfl (by decide) (by decide)) rfl) rfl ?_
    refine xo_rd (rd_cast (v' := .int .u8 (w / 256 % 256)) (rd_conv rfl) (congrArg (Value.int .u8) (wrap8 (w / 256)))) rfl ?_
    refine xo_rd (rd_move rfl) rfl ?_
    refine xo_rd (rd_cast (v' := .int .u8 (w % 256)) (rd_conv rfl) (congrArg (Value.int .u8) (wrap8 w))) rfl ?_
    refine xo_ef rfl (ef_buildL (T := 22) (len := 4) (s := 1) (cells := (ints .u8 ([ff, kd] ++ be2 w)).toArray) rfl (by decide) (by decide) (by kernel_rfl) fun r24 => ?_)
    refine xo_rd (rd_fieldAddr rfl) rfl ?_
    refine xo_rd (rd_load1 rfl (Cl.o1 rfl)) rfl ?_
    refine xo_ef rfl (ef_appendG [] ((r1, .cells #[.int .u8 ct, .int .u8 kd, .slice p bd.length c, .int .u8 pd] 35 (0, 0)) :: L) [(r24, .cells (ints .u8 ([ff, kd] ++ be2 w)).toArray 5 (0, 0))] (news := ints .u8 bd) rfl rfl (SlO.lit rfl) rfl (h1.mono (by intro z hz; simp [hz])) (by rw [ints_len, Nat.mul_one]) (ints_one _ _) (by decide) (by omega) (by omega) fun q3 k3 l3 hO3 hc3 => ?_)
    refine xo_rd (rd_assign rfl) rfl ?_
    refine xo_nil ?_
    refine xq_seq ?_
  rw [← ints_app] at hO3
  generalize hX3 : [ff, kd] ++ be2 w ++ bd = X3 at hO3
  have hput : ∀ T, tailL pd = T → putP ⟨ct, kd, bd, pd⟩ = X3 ++ T := fun T h => by
    rw [← hX3, ← h, hff, hw]
    simp only [putP, List.append_assoc]
  obtain ⟨n3, hn3⟩ : ∃ n3, n3 = 4 + bd.length := ⟨_, rfl⟩
  rw [← hn3] at hO3 ⊢
  by_cases hpd : 0 < pd
  · obtain ⟨z, hz⟩ : ∃ z : Nat, pd - 1 = z := ⟨(pd - 1).toNat, by omega⟩
    have hz2 : (pd - 1).toNat = z := by omega
    have hT : tailL pd = List.replicate z 0 ++ [pd] := by unfold tailL; rw [if_pos hpd, hz2]
    focus
      refine xc_seq ?_
      refine xc_seq ?_
      refine xc_region ?_
      refine xo_rd (rd_fieldAddr rfl) rfl ?_
      refine xo_rd (rd_load1 rfl (hbx _ (by simp) _ _ rfl)) rfl ?_
      refine xo_rd (rd_gtr rfl rfl) rfl ?_
      refine xo_nil ?_
      refine xq_seq ?_
      refine xc_dec rfl (fun hw1 => ?_) (fun hw1 => (by exfalso; omega))
      refine xc_drawM [0, 0, 2, 4, 9, 0, 32, 64, 144, 511] [0, 0, 2, 4, 9, 0, 32, 64, 144, 511] ([(r1, .cells #[.int .u8 ct, .int .u8 kd, .slice p bd.length c, .int .u8 pd] 35 (0, 0))]) (by kernel_rfl) (by kernel_rfl) (by kernel_rfl) ?_
      refine xm_take 0 (m' := 1) rfl (by kernel_rfl) (by first | exact Sb.refl | exact Sb.nil | (repeat (first | exact Sb.nil | exact Sb.refl | exact Sb.app0 | apply Sb.keep | apply Sb.keepApp | apply Sb.cons | apply Sb.app))) (rd_move rfl) rfl (by kernel_rfl) ?_
      refine xm_take 1 (m' := 3) rfl (by kernel_rfl) (by first | exact Sb.refl | exact Sb.nil | (repeat (first | exact Sb.nil | exact Sb.refl | exact Sb.app0 | apply Sb.keep | apply Sb.keepApp | apply Sb.cons | apply Sb.app))) (rd_fieldAddr rfl) rfl (by kernel_rfl) ?_
      refine xm_take 2 (m' := 7) rfl (by kernel_rfl) (by first | exact Sb.refl | exact Sb.nil | (repeat (first | exact Sb.nil | exact Sb.refl | exact Sb.app0 | apply Sb.keep | apply Sb.keepApp | apply Sb.cons | apply Sb.app))) (rd_load1 rfl (hbx _ (by simp) _ _ rfl)) rfl (by kernel_rfl) ?_
      refine xm_take 3 (m' := 15) rfl (by kernel_rfl) (by first | exact Sb.refl | exact Sb.nil | (repeat (first | exact Sb.nil | exact Sb.refl | exact Sb.app0 | apply Sb.keep | apply Sb.keepApp | apply Sb.cons | apply Sb.app))) (rd_subn rfl rfl (by omega) (by omega)) rfl (by kernel_rfl) ?_
      refine xm_take 5 (m' := 47) rfl (by kernel_rfl) (by first | exact Sb.refl | exact Sb.nil | (repeat (first | exact Sb.nil | exact Sb.refl | exact Sb.app0 | apply Sb.keep | apply Sb.keepApp | apply Sb.cons | apply Sb.app))) (rd_fieldAddr rfl) rfl (by kernel_rfl) ?_
      refine xm_take 6 (m' := 111) rfl (by kernel_rfl) (by first | exact Sb.refl | exact Sb.nil | (repeat (first | exact Sb.nil | exact Sb.refl | exact Sb.app0 | apply Sb.keep | apply Sb.keepApp | apply Sb.cons | apply Sb.app))) (rd_load1 rfl (hbx _ (by simp) _ _ rfl)) rfl (by kernel_rfl) ?_
      refine xm_two 4 7 (mi := 127) (mk := 239) rfl rfl (by kernel_rfl) rfl rfl (by kernel_rfl) (by kernel_rfl) (ef_appendZ [] ((r1, .cells #[.int .u8 ct, .int .u8 kd, .slice p bd.length c, .int .u8 pd] 35 (0, 0)) :: L) l3 z rfl rfl hz hO3 rfl rfl rfl (by omega) (by omega) fun q4 k4 l4 hO4 hc4 => ⟨(by first | exact Sb.refl | exact Sb.nil | (repeat (first | exact Sb.nil | exact Sb.refl | exact Sb.app0 | apply Sb.keep | apply Sb.keepApp | apply Sb.cons | apply Sb.app))), ?_⟩) (ef_slice1 rfl rfl rfl fun r38 => ⟨(by first | exact Sb.refl | exact Sb.nil | (repeat (first | exact Sb.nil | exact Sb.refl | exact Sb.app0 | apply Sb.keep | apply Sb.keepApp | apply Sb.cons | apply Sb.app))), ?_⟩)
      refine xm_one 7 (m' := 255) rfl (by kernel_rfl) rfl (by kernel_rfl) (ef_slice1 rfl rfl rfl fun r38 => ?_)
      refine ⟨(by first | exact Sb.refl | exact Sb.nil | (repeat (first | exact Sb.nil | exact Sb.refl | exact Sb.app0 | apply Sb.keep | apply Sb.keepApp | apply Sb.cons | apply Sb.app))), ?_⟩
      refine xm_one 8 (m' := 511) rfl (by kernel_rfl) rfl (by kernel_rfl) (ef_appendG [(r38, .cells #[.int .u8 pd] 5 (0, 0))] ((r1, .cells #[.int .u8 ct, .int .u8 kd, .slice p bd.length c, .int .u8 pd] 35 (0, 0)) :: L) l4 (news := [.int .u8 pd]) rfl rfl hO4 rfl (Rs.fresh (List.Mem.head _)) rfl rfl (by decide) (by omega) (by omega) fun qb kb lb hOb hcb => ?_)
      refine ⟨(by first | exact Sb.refl | exact Sb.nil | (repeat (first | exact Sb.nil | exact Sb.refl | exact Sb.app0 | apply Sb.keep | apply Sb.keepApp | apply Sb.cons | apply Sb.app))), ?_⟩
      refine xm_take 9 (m' := 1023) rfl (by kernel_rfl) (by first | exact Sb.refl | exact Sb.nil | (repeat (first | exact Sb.nil | exact Sb.refl | exact Sb.app0 | apply Sb.keep | apply Sb.keepApp | apply Sb.cons | apply Sb.app))) (rd_assign rfl) rfl (by kernel_rfl) ?_
      refine xm_done (by kernel_rfl) ?_
      refine xq_seq ?_
      refine xc_seq ?_
      refine xc_region ?_
      refine xo_rd (rd_move rfl) rfl ?_
      refine xo_rd (rd_assign rfl) rfl ?_
      refine xo_nil ?_
      refine xq_seq ?_
      refine xc_ret ?_
      rotate_left
      refine xm_one 4 (m' := 255) rfl (by kernel_rfl) rfl (by kernel_rfl) (ef_appendZ [(r38, .cells #[.int .u8 pd] 5 (0, 0))] ((r1, .cells #[.int .u8 ct, .int .u8 kd, .slice p bd.length c, .int .u8 pd] 35 (0, 0)) :: L) l3 z rfl rfl hz hO3 rfl rfl rfl (by omega) (by omega) fun q4 k4 l4 hO4 hc4 => ?_)
      refine ⟨(by first | exact Sb.refl | exact Sb.nil | (repeat (first | exact Sb.nil | exact Sb.refl | exact Sb.app0 | apply Sb.keep | apply Sb.keepApp | apply Sb.cons | apply Sb.app))), ?_⟩
      refine xm_one 8 (m' := 511) rfl (by kernel_rfl) rfl (by kernel_rfl) (ef_appendG [(r38, .cells #[.int .u8 pd] 5 (0, 0))] ((r1, .cells #[.int .u8 ct, .int .u8 kd, .slice p bd.length c, .int .u8 pd] 35 (0, 0)) :: L) l4 (news := [.int .u8 pd]) rfl rfl hO4 rfl (Rs.fresh (List.Mem.head _)) rfl rfl (by decide) (by omega) (by omega) fun qb kb lb hOb hcb => ?_)
      refine ⟨(by first | exact Sb.refl | exact Sb.nil | (repeat (first | exact Sb.nil | exact Sb.refl | exact Sb.app0 | apply Sb.keep | apply Sb.keepApp | apply Sb.cons | apply Sb.app))), ?_⟩
      refine xm_take 9 (m' := 1023) rfl (by kernel_rfl) (by first | exact Sb.refl | exact Sb.nil | (repeat (first | exact Sb.nil | exact Sb.refl | exact Sb.app0 | apply Sb.keep | apply Sb.keepApp | apply Sb.cons | apply Sb.app))) (rd_assign rfl) rfl (by kernel_rfl) ?_
      refine xm_done (by kernel_rfl) ?_
      refine xq_seq ?_
      refine xc_seq ?_
      refine xc_region ?_
      refine xo_rd (rd_move rfl) rfl ?_
      refine xo_rd (rd_assign rfl) rfl ?_
      refine xo_nil ?_
      refine xq_seq ?_
      refine xc_ret ?_
      rotate_left
    all_goals rw [hput _ hT]
    all_goals rw [show ints .u8 X3 ++ List.replicate z (.int .u8 0) ++ [.int .u8 pd] = ints .u8 (X3 ++ (List.replicate z 0 ++ [pd])) from by simp [ints]] at hOb
    all_goals have hle : (X3 ++ (List.replicate z 0 ++ [pd])).length = n3 + z + 1 := by have := hOb.len; rw [ints_len] at this; omega
    all_goals rw [hle]
    all_goals exact xq_sub (L' := lb ++ L) (List.Sublist.append_left (List.sublist_cons_self _ _) lb) (xq_ret1 (.inl rfl) Try.results49 rfl ⟨qb, kb, lb, rfl, hOb, rfl⟩)
  · focus
      refine xc_seq ?_
      refine xc_seq ?_
      refine xc_region ?_
      refine xo_rd (rd_fieldAddr rfl) rfl ?_
      refine xo_rd (rd_load1 rfl (hbx _ (by simp) _ _ rfl)) rfl ?_
      refine xo_rd (rd_gtr rfl rfl) rfl ?_
      refine xo_nil ?_
      refine xq_seq ?_
      refine xc_dec rfl (fun hw1 => (by exfalso; omega)) (fun hw1 => ?_)
      refine xc_skip ?_
      refine xq_seq ?_
      refine xc_seq ?_
      refine xc_region ?_
      refine xo_rd (rd_move rfl) rfl ?_
      refine xo_rd (rd_assign rfl) rfl ?_
      refine xo_nil ?_
      refine xq_seq ?_
      refine xc_ret ?_
    have hp0 : pd = 0 := by omega
    subst hp0
    rw [hput [] rfl, List.append_nil]
    have hle : X3.length = n3 := by have := hO3.len; rw [ints_len] at this; omega
    rw [hle]
    exact xq_sub (L' := l3 ++ L) (List.Sublist.append_left (List.sublist_cons_self _ _) l3) (xq_ret1 (.inl rfl) Try.results49 rfl ⟨q3, k3, l3, rfl, hO3, rfl⟩)
end Go.Proofs.Ytohlaabclifbfaa.X
