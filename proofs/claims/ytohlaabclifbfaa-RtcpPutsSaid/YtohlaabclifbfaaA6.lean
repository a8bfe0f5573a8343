/-
  The reference splits a compound: a walk of my own.
-/
import Derived.Test.YtohlaabclifbfaaA5
namespace Go.Proofs.Ytohlaabclifbfaa.X
open Go Go.RowKit
set_option linter.unusedVariables false
set_option linter.unusedSimpArgs false
theorem Rs.sub2 {W : World} {L L' : List Blk} {b o : Nat} {xs : List Int} (h : Rs W L (some ⟨b, o, none⟩) (ints .u8 xs)) (i n : Nat) (hs : ∀ z, z ∈ L → z ∈ L') : Rs W L' (some ⟨b, o + i * 1, none⟩) (ints .u8 ((xs.drop i).take n)) := by
  rw [Nat.mul_one]
  refine Rs.ints_take ?_ n
  rw [ints_drop]
  exact (h.mono hs).drop i
structure RpS where
  K : Nat
  xs : List Pb
  a : Nat
  s : Option Addr
  k : Nat
  l : List Blk
structure RpI (W : World) (L : List Blk) (bs : List Int) (z : RpS) : Prop where
  eq : splitL (bs.length + 1) true bs = comb (z.xs.map (·.q)) (splitL (z.K + 1) z.xs.isEmpty (bs.drop z.a))
  fu : bs.length - z.a ≤ z.K
  le : z.a ≤ bs.length
  few : 4 * z.xs.length ≤ z.a
  emp : z.xs.isEmpty = decide (z.a = 0)
  ok : ∀ x, x ∈ z.xs → x.Ok
  rg : ∀ x, x ∈ z.xs → x.q.Rg
  sl : SlO 4 46 (.slice z.s z.xs.length z.k) z.xs.length (z.xs.flatMap Pb.enc) z.l
set_option maxHeartbeats 8000000 in
theorem xf_rsplit {W : World} {L : List Blk} (p : Option Addr) (m c : Nat) (bs : List Int) (hx : bs.length = m) (hr : Rs W L p (ints .u8 bs)) (hb : ∀ x, x ∈ bs → By x) (hc : m ≤ c) (hm : m ≤ 1000000) :
    XF Try.prog W 10 #[.slice p m c] L (SpM W L 46 (splitL (bs.length + 1) true bs)) := by
  refine xf_enter (args := [_]) Try.func10 rfl Try.ntmps10 rfl ?_
  focus
    refine xc_seq ?_
    refine xc_region ?_
    refine xo_rd (rd_assign rfl) rfl ?_
    refine xo_rd (rd_assign rfl) rfl ?_
    refine xo_nil ?_
    refine xq_seq ?_
    refine xc_seq ?_
    refine xc_region ?_
    refine xo_rd (rd_assign rfl) rfl ?_
    refine xo_nil ?_
    refine xq_seq ?_
    refine xc_seq ?_
    refine xc_region ?_
    refine xo_rd (rd_assign rfl) rfl ?_
    refine xo_nil ?_
    refine xq_seq ?_
  refine xc_seq (xc_block ?_)
  refine xc_loopI (ι := RpS) (RpI W L bs) (fun z => bs.length - z.a) (fun z => z.l ++ (bls z.xs ++ L)) (fun z => [(0, .slice p m c), (4, .slice z.s z.xs.length z.k), (5, .int .i64 z.a)]) ⟨m, [], 0, none, 0, []⟩ ⟨by dsimp only; rw [hx]; exact (comb_nil _ _ _).symm, by dsimp only; omega, Nat.zero_le _, by simp, rfl, (fun x h => by cases h), (fun x h => by cases h), SlO.nil⟩ rfl (by repeat (first | exact keep_nil | refine keep_cons rfl ?_)) ?_
  rintro ⟨K, xs, a, s, k, l⟩ ⟨heq, hfu, hle, hfew, hemp, hok, hrg, hsl⟩
  dsimp only at heq hfu hle hfew hemp hok hrg hsl ⊢
  obtain ⟨f, hf⟩ : ∃ f, decide (a = 0) = f := ⟨_, rfl⟩
  rw [hemp, hf] at heq
  have hsub : L.Sublist (l ++ (bls xs ++ L)) := (List.sublist_append_right (bls xs) L).trans (List.sublist_append_right l _)
  by_cases hend : a < m ∨ a = 0
  · have hne : ¬ (bs.drop a = [] ∧ f = false) := fun h => by
      have h1 := List.drop_eq_nil_iff.1 h.1
      rcases hend with h2 | h2
      · omega
      · rw [← hf, decide_eq_true h2] at h; exact absurd h.2 (by decide)
    have herr : ∀ e, takeP (bs.drop a) f = (e, .zero, []) → e ≠ 0 → splitL (bs.length + 1) true bs = ([], e) := fun e h1 h2 => by rw [heq]; exact comb_err h1 h2 hne
    by_cases h4 : m - a < 4
    · rw [herr 10 (takeP_short (by rw [List.length_drop]; omega)) (by decide)]
      focus
        refine xc_seq ?_
        refine xc_seq ?_
        refine xc_region ?_
        refine xo_rd (rd_move rfl) rfl ?_
        refine xo_rd (rd_move rfl) rfl ?_
        refine xo_rd (rd_len rfl) rfl ?_
        refine xo_rd (rd_lss rfl rfl) rfl ?_
        refine xo_rd (rd_move rfl) rfl ?_
        refine xo_dec 12 rfl (fun h1 => ?_) (fun h1 => ?_)
        refine xo_gskip rfl rfl rfl rfl ?_
        refine xo_gskip rfl rfl rfl rfl ?_
        refine xo_rd (rd_pickt rfl rfl) rfl ?_
        refine xo_nil ?_
        refine xq_seq ?_
        refine xc_condt rfl ?_
        refine xc_skip ?_
        refine xq_seq ?_
        refine xc_block ?_
        refine xc_seq ?_
        refine xc_seq ?_
        refine xc_region ?_
        refine xo_rd (rd_move rfl) rfl ?_
        refine xo_rd (rd_len rfl) rfl ?_
        refine xo_rd (rd_move rfl) rfl ?_
        refine xo_rd (rd_subn rfl rfl (by omega) (by omega)) rfl ?_
        refine xo_rd (rd_lss rfl rfl) rfl ?_
        refine xo_nil ?_
        refine xq_seq ?_
        refine xc_dec rfl (fun h2 => ?_) (fun h2 => (by exfalso; omega))
        refine xc_seq ?_
        refine xc_region ?_
        refine xo_rd (rd_assign rfl) rfl ?_
        refine xo_rd (rd_assign rfl) rfl ?_
        refine xo_nil ?_
        refine xq_seq ?_
        refine xc_ret ?_
        refine xq_then_ret ?_
        refine xq_block_ret ?_
        refine xq_then_ret ?_
        refine xq_block_ret ?_
        refine xq_then_ret ?_
        rotate_left
        refine xo_grd rfl rfl (rd_move rfl) rfl ?_
        refine xo_grd rfl rfl (rd_eql rfl rfl) rfl ?_
        refine xo_rd (rd_pickf rfl rfl) rfl ?_
        refine xo_nil ?_
        refine xq_seq ?_
        refine xc_dec rfl (fun h3 => ?_) (fun h3 => (by exfalso; omega))
        refine xc_skip ?_
        refine xq_seq ?_
        refine xc_block ?_
        refine xc_seq ?_
        refine xc_seq ?_
        refine xc_region ?_
        refine xo_rd (rd_move rfl) rfl ?_
        refine xo_rd (rd_len rfl) rfl ?_
        refine xo_rd (rd_move rfl) rfl ?_
        refine xo_rd (rd_subn rfl rfl (by omega) (by omega)) rfl ?_
        refine xo_rd (rd_lss rfl rfl) rfl ?_
        refine xo_nil ?_
        refine xq_seq ?_
        refine xc_dec rfl (fun h4 => ?_) (fun h4 => (by exfalso; omega))
        refine xc_seq ?_
        refine xc_region ?_
        refine xo_rd (rd_assign rfl) rfl ?_
        refine xo_rd (rd_assign rfl) rfl ?_
        refine xo_nil ?_
        refine xq_seq ?_
        refine xc_ret ?_
        refine xq_then_ret ?_
        refine xq_block_ret ?_
        refine xq_then_ret ?_
        refine xq_block_ret ?_
        refine xq_then_ret ?_
        rotate_left
      all_goals exact xq_sub hsub (xq_ret2 (.inl rfl) Try.results10 rfl rfl (SpM.err 10))
    obtain ⟨b0, b1, b2, b3, t, hd⟩ : ∃ b0 b1 b2 b3 t, bs.drop a = b0 :: b1 :: b2 :: b3 :: t := by
      have hl : (bs.drop a).length = m - a := by rw [List.length_drop, hx]
      rcases hbd : bs.drop a with _ | ⟨b0, _ | ⟨b1, _ | ⟨b2, _ | ⟨b3, t⟩⟩⟩⟩
      · rw [hbd] at hl; simp at hl; omega
      · rw [hbd] at hl; simp at hl; omega
      · rw [hbd] at hl; simp at hl; omega
      · rw [hbd] at hl; simp at hl; omega
      · exact ⟨b0, b1, b2, b3, t, rfl⟩
    have hbd : ∀ x, x ∈ b0 :: b1 :: b2 :: b3 :: t → By x := fun x h => hb x (List.mem_of_mem_drop (hd ▸ h))
    have g0 := hbd b0 (by simp); have g1 := hbd b1 (by simp); have g2 := hbd b2 (by simp); have g3 := hbd b3 (by simp)
    have hbt : ∀ x, x ∈ t → By x := fun x h => hbd x (by simp [h])
    unfold By at g0 g1 g2 g3
    have htl : t.length + 4 + a = m := by
      have := congrArg List.length hd
      rw [List.length_drop, hx] at this
      simp at this; omega
    obtain ⟨b, o, rfl, hc0⟩ := hr.int (i := 0) (by omega)
    have hcell : ∀ (i : Nat) (z : Int) (J : Int), J = a + i → (b0 :: b1 :: b2 :: b3 :: t)[i]? = some z → ∀ L', (∀ z, z ∈ L → z ∈ L') → Cl W L' b (o + J.toNat * 1) (.int .u8 z) := fun i z J hJ hz L' hL' => by
      rw [← hd, List.getElem?_drop] at hz
      obtain ⟨hi, rfl⟩ := List.getElem?_eq_some_iff.1 hz
      obtain ⟨b', o', he, hci⟩ := (hr.mono hL').int hi
      simp only [Option.some.injEq, Addr.mk.injEq, and_true] at he
      obtain ⟨rfl, rfl⟩ := he
      rw [show J.toNat = a + i from by omega]
      exact hci
    rw [hd] at herr heq
    obtain ⟨w, hw⟩ : ∃ w, vl [b2, b3] = w := ⟨_, rfl⟩
    have hwv : w = b2 * 256 + b3 := by rw [← hw]; simp only [vl, List.foldl]; omega
    obtain ⟨kk, hkk⟩ : ∃ k : Nat, k = (4 * w).toNat := ⟨_, rfl⟩
    have hkv : (kk : Int) = 4 * w := by omega
    have herr' : ∀ e, takeT b0 b1 kk t f = (e, .zero, []) → e ≠ 0 → splitL (bs.length + 1) true bs = ([], e) := fun e h1 h2 => herr e (by show takeT b0 b1 (4 * vl [b2, b3]).toNat t f = _; rw [hw, ← hkk]; exact h1) h2
    have hg : ∀ e, takeT b0 b1 kk t f = (e, .zero, []) → e ≠ 0 → SpM W L 46 (splitL (bs.length + 1) true bs) (.tuple #[.slice none 0 0, .int .i64 e]) L := fun e h1 h2 => by rw [herr' e h1 h2]; exact SpM.err e
    focus
      refine xc_seq ?_
      refine xc_seq ?_
      refine xc_region ?_
      refine xo_rd (rd_move rfl) rfl ?_
      refine xo_rd (rd_move rfl) rfl ?_
      refine xo_rd (rd_len rfl) rfl ?_
      refine xo_rd (rd_lss rfl rfl) rfl ?_
      refine xo_rd (rd_move rfl) rfl ?_
      refine xo_dec 12 rfl (fun hq1 => ?_) (fun hq1 => (by exfalso; omega))
      refine xo_gskip rfl rfl rfl rfl ?_
      refine xo_gskip rfl rfl rfl rfl ?_
      refine xo_rd (rd_pickt rfl rfl) rfl ?_
      refine xo_nil ?_
      refine xq_seq ?_
      refine xc_condt rfl ?_
      refine xc_skip ?_
      refine xq_seq ?_
      refine xc_block ?_
      refine xc_seq ?_
      refine xc_seq ?_
      refine xc_region ?_
      refine xo_rd (rd_move rfl) rfl ?_
      refine xo_rd (rd_len rfl) rfl ?_
      refine xo_rd (rd_move rfl) rfl ?_
      refine xo_rd (rd_subn rfl rfl (by omega) (by omega)) rfl ?_
      refine xo_rd (rd_lss rfl rfl) rfl ?_
      refine xo_nil ?_
      refine xq_seq ?_
      refine xc_dec rfl (fun hq2 => (by exfalso; omega)) (fun hq2 => ?_)
      refine xc_skip ?_
      refine xq_seq ?_
      refine xc_seq ?_
      refine xc_seq ?_
      refine xc_region ?_
      refine xo_rd (rd_move rfl) rfl ?_
      refine xo_rd (rd_move rfl) rfl ?_
      refine xo_rd (rd_indexAddr rfl rfl (by omega) (by omega)) rfl ?_
      refine xo_rd (rd_load1 rfl (hcell 0 _ _ (by omega) rfl _ (by intro z hz; simp [hz]))) rfl ?_
      refine xo_rd (rd_quon rfl rfl (by omega) (by omega) (by omega) (by omega)) rfl ?_
      refine xo_rd (rd_neq rfl rfl) rfl ?_
      refine xo_nil ?_
      refine xq_seq ?_
      refine xc_ndec rfl (fun hq3 => ?_) (fun hq3 => ?_)
      refine xc_seq ?_
      refine xc_region ?_
      refine xo_rd (rd_assign rfl) rfl ?_
      refine xo_rd (rd_assign rfl) rfl ?_
      refine xo_nil ?_
      refine xq_seq ?_
      refine xc_ret ?_
      refine xq_then_ret ?_
      refine xq_block_ret ?_
      refine xq_then_ret ?_
      refine xq_block_ret ?_
      refine xq_then_ret ?_
      rotate_left
      refine xc_skip ?_
      refine xq_seq ?_
      rotate_left
    · exact xq_sub hsub (xq_ret2 (.inl rfl) Try.results10 rfl rfl (hg 20 (by unfold takeT; rw [if_pos hq3]) (by decide)))
    refine xc_join (ι := Unit) (fun _ => ¬ (f = true ∧ isFirst b1 = false)) (fun _ => l ++ (bls xs ++ L)) (fun _ => [(0, .slice (some ⟨b, o, none⟩) m c), (4, .slice s xs.length k), (5, .int .i64 a)]) ?_ ?_
    · focus
        refine xc_seq ?_
        refine xc_region ?_
        refine xo_rd (rd_move rfl) rfl ?_
        refine xo_rd (rd_eql rfl rfl) rfl ?_
        refine xo_rd (rd_move rfl) rfl ?_
        refine xo_dec 29 rfl (fun hw1 => ?_) (fun hw1 => ?_)
        refine xo_grd rfl rfl (rd_move rfl) rfl ?_
        refine xo_grd rfl rfl (rd_indexAddr rfl rfl (by omega) (by omega)) rfl ?_
        refine xo_grd rfl rfl (rd_load1 rfl (hcell 1 _ _ (by omega) rfl _ (by intro z hz; simp [hz]))) rfl ?_
        refine xo_grd rfl rfl (rd_neq rfl rfl) rfl ?_
        refine xo_rd (rd_pickt rfl rfl) rfl ?_
        refine xo_rd (rd_move rfl) rfl ?_
        refine xo_ndec 35 rfl (fun hw2 => ?_) (fun hw2 => ?_)
        refine xo_grd rfl rfl (rd_move rfl) rfl ?_
        refine xo_grd rfl rfl (rd_indexAddr rfl rfl (by omega) (by omega)) rfl ?_
        refine xo_grd rfl rfl (rd_load1 rfl (hcell 1 _ _ (by omega) rfl _ (by intro z hz; simp [hz]))) rfl ?_
        refine xo_grd rfl rfl (rd_neq rfl rfl) rfl ?_
        refine xo_rd (rd_pickt rfl rfl) rfl ?_
        refine xo_nil ?_
        refine xq_seq ?_
        refine xc_ndec rfl (fun hw3 => ?_) (fun hw3 => ?_)
        refine xc_seq ?_
        refine xc_region ?_
        refine xo_rd (rd_assign rfl) rfl ?_
        refine xo_rd (rd_assign rfl) rfl ?_
        refine xo_nil ?_
        refine xq_seq ?_
        refine xc_ret ?_
        refine xq_then_ret ?_
        refine xq_block_ret ?_
        refine xq_then_ret ?_
        refine xq_block_ret ?_
        refine xq_then_ret ?_
        rotate_left
        refine xc_skip ?_
        rotate_left
        refine xo_gskip rfl rfl rfl rfl ?_
        refine xo_gskip rfl rfl rfl rfl ?_
        refine xo_gskip rfl rfl rfl rfl ?_
        refine xo_gskip rfl rfl rfl rfl ?_
        refine xo_rd (rd_pickf rfl rfl) rfl ?_
        refine xo_nil ?_
        refine xq_seq ?_
        refine xc_condf rfl ?_
        refine xc_skip ?_
        rotate_left
        refine xo_gskip rfl rfl rfl rfl ?_
        refine xo_gskip rfl rfl rfl rfl ?_
        refine xo_gskip rfl rfl rfl rfl ?_
        refine xo_gskip rfl rfl rfl rfl ?_
        refine xo_rd (rd_pickf rfl rfl) rfl ?_
        refine xo_rd (rd_move rfl) rfl ?_
        refine xo_gskip rfl rfl rfl rfl ?_
        refine xo_gskip rfl rfl rfl rfl ?_
        refine xo_gskip rfl rfl rfl rfl ?_
        refine xo_gskip rfl rfl rfl rfl ?_
        refine xo_rd (rd_pickf rfl rfl) rfl ?_
        refine xo_nil ?_
        refine xq_seq ?_
        refine xc_condf rfl ?_
        refine xc_skip ?_
        rotate_left
      · have e1 : f = true := by rw [← hf]; exact decide_eq_true (by omega)
        have e2 : isFirst b1 = false := decide_eq_false (by omega)
        exact xq_sub hsub (xq_ret2 (.inl rfl) Try.results10 rfl rfl (hg 60 (by unfold takeT; rw [if_neg (by omega), if_pos ⟨e1, e2⟩]) (by decide)))
      · exact xq_joined () (fun h => by rw [show isFirst b1 = true from decide_eq_true (by omega)] at h; exact absurd h.2 (by decide)) rfl (by repeat (first | exact keep_nil | refine keep_cons rfl ?_))
      · exact xq_joined () (fun h => by rw [show isFirst b1 = true from decide_eq_true (by omega)] at h; exact absurd h.2 (by decide)) rfl (by repeat (first | exact keep_nil | refine keep_cons rfl ?_))
      · exact xq_joined () (fun h => by rw [← hf, decide_eq_false (show ¬ a = 0 by omega)] at h; exact absurd h.1 (by decide)) rfl (by repeat (first | exact keep_nil | refine keep_cons rfl ?_))
    rintro _ hff
    have hvr : ∀ L', (∀ z, z ∈ L → z ∈ L') → Rs W L' (some ⟨b, o + ((a : Int) + 2).toNat * 1, none⟩) (ints .u8 [b2, b3]) := fun L' h => by
      rw [show ((a : Int) + 2).toNat = a + 2 from by omega]
      have h1 := Rs.sub2 hr (a + 2) 2 h
      rwa [← List.drop_drop, hd] at h1
    focus
      refine xc_seq ?_
      refine xc_region ?_
      refine xo_rd (rd_move rfl) rfl ?_
      refine xo_rd (rd_addn rfl rfl (by omega) (by omega)) rfl ?_
      refine xo_rd (rd_move rfl) rfl ?_
      refine xo_rd (rd_move rfl) rfl ?_
      refine xo_rd (rd_addn rfl rfl (by omega) (by omega)) rfl ?_
      refine xo_rd (rd_move rfl) rfl ?_
      refine xo_rd (rd_addn rfl rfl (by omega) (by omega)) rfl ?_
      refine xo_rd (rd_slice rfl rfl rfl (by omega) (by omega) (by omega) (by omega)) rfl ?_
      refine xo_ef rfl (ef_call rfl (XF.mono (xf_value (some ⟨b, o + ((a : Int) + 2).toNat * 1, none⟩) _ _ [b2, b3] (by show 2 = _; omega) (hvr _ (fun z h => hsub.subset h)) (fun x h => hbd x (by simp at h ⊢; omega)) (by omega)) ?_))
      rintro v L' ⟨rfl, rfl⟩
      refine xo_rd (rd_cast (v' := .int .i64 w) (rd_convn rfl (by omega) (by omega)) (congrArg (Value.int .i64) hw)) rfl ?_
      refine xo_rd (rd_muln rfl rfl (by omega) (by omega)) rfl ?_
      refine xo_rd (rd_cast (v' := .int .i64 ((a + 4 + kk : Nat) : Int)) (rd_addn rfl rfl (by omega) (by omega)) (congrArg (Value.int .i64) (by omega))) rfl ?_
      refine xo_rd (rd_assign rfl) rfl ?_
      refine xo_nil ?_
      refine xq_seq ?_
    have hkm : t.length < kk → SpM W L 46 (splitL (bs.length + 1) true bs) (.tuple #[.slice none 0 0, .int .i64 61]) L := fun h => hg 61 (by unfold takeT; rw [if_neg (by omega), if_neg hff, if_pos h]) (by decide)
    focus
      refine xc_seq ?_
      refine xc_seq ?_
      refine xc_region ?_
      refine xo_rd (rd_move rfl) rfl ?_
      refine xo_rd (rd_move rfl) rfl ?_
      refine xo_rd (rd_len rfl) rfl ?_
      refine xo_rd (rd_gtr rfl rfl) rfl ?_
      refine xo_nil ?_
      refine xq_seq ?_
      refine xc_dec rfl (fun hq1 => ?_) (fun hq1 => ?_)
      refine xc_seq ?_
      refine xc_region ?_
      refine xo_rd (rd_assign rfl) rfl ?_
      refine xo_rd (rd_assign rfl) rfl ?_
      refine xo_nil ?_
      refine xq_seq ?_
      refine xc_ret ?_
      refine xq_then_ret ?_
      refine xq_block_ret ?_
      refine xq_then_ret ?_
      refine xq_block_ret ?_
      refine xq_then_ret ?_
      rotate_left
      refine xc_skip ?_
      refine xq_seq ?_
      refine xc_seq ?_
      refine xc_drawM [0, 0, 3, 4, 8, 0, 0, 64, 160, 256, 528, 0, 4095] [0, 0, 3, 4, 8, 0, 0, 64, 160, 256, 528, 0, 4095] (L) (by kernel_rfl) (by kernel_rfl) (by kernel_rfl) ?_
      refine xm_take 0 (m' := 1) rfl (by kernel_rfl) (by first | exact Sb.refl | exact Sb.nil | (repeat (first | exact Sb.nil | exact Sb.refl | exact Sb.app0 | apply Sb.keep | apply Sb.keepApp | apply Sb.cons | apply Sb.app))) (rd_move rfl) rfl (by kernel_rfl) ?_
      refine xm_take 1 (m' := 3) rfl (by kernel_rfl) (by first | exact Sb.refl | exact Sb.nil | (repeat (first | exact Sb.nil | exact Sb.refl | exact Sb.app0 | apply Sb.keep | apply Sb.keepApp | apply Sb.cons | apply Sb.app))) (rd_move rfl) rfl (by kernel_rfl) ?_
      refine xm_take 2 (m' := 7) rfl (by kernel_rfl) (by first | exact Sb.refl | exact Sb.nil | (repeat (first | exact Sb.nil | exact Sb.refl | exact Sb.app0 | apply Sb.keep | apply Sb.keepApp | apply Sb.cons | apply Sb.app))) (rd_indexAddr rfl rfl (by omega) (by omega)) rfl (by kernel_rfl) ?_
      refine xm_take 3 (m' := 15) rfl (by kernel_rfl) (by first | exact Sb.refl | exact Sb.nil | (repeat (first | exact Sb.nil | exact Sb.refl | exact Sb.app0 | apply Sb.keep | apply Sb.keepApp | apply Sb.cons | apply Sb.app))) (rd_load1 rfl (hcell 0 _ _ (show (a : Int) = a + (0 : Nat) by omega) rfl _ (by intro z hz; simp [hz]))) rfl (by kernel_rfl) ?_
      refine xm_take 4 (m' := 31) rfl (by kernel_rfl) (by first | exact Sb.refl | exact Sb.nil | (repeat (first | exact Sb.nil | exact Sb.refl | exact Sb.app0 | apply Sb.keep | apply Sb.keepApp | apply Sb.cons | apply Sb.app))) (rd_remn rfl rfl (by omega) (by omega)) rfl (by kernel_rfl) ?_
      refine xm_take 5 (m' := 63) rfl (by kernel_rfl) (by first | exact Sb.refl | exact Sb.nil | (repeat (first | exact Sb.nil | exact Sb.refl | exact Sb.app0 | apply Sb.keep | apply Sb.keepApp | apply Sb.cons | apply Sb.app))) (rd_move rfl) rfl (by kernel_rfl) ?_
      refine xm_take 6 (m' := 127) rfl (by kernel_rfl) (by first | exact Sb.refl | exact Sb.nil | (repeat (first | exact Sb.nil | exact Sb.refl | exact Sb.app0 | apply Sb.keep | apply Sb.keepApp | apply Sb.cons | apply Sb.app))) (rd_move rfl) rfl (by kernel_rfl) ?_
      refine xm_take 7 (m' := 255) rfl (by kernel_rfl) (by first | exact Sb.refl | exact Sb.nil | (repeat (first | exact Sb.nil | exact Sb.refl | exact Sb.app0 | apply Sb.keep | apply Sb.keepApp | apply Sb.cons | apply Sb.app))) (rd_addn rfl rfl (by omega) (by omega)) rfl (by kernel_rfl) ?_
      refine xm_take 8 (m' := 511) rfl (by kernel_rfl) (by first | exact Sb.refl | exact Sb.nil | (repeat (first | exact Sb.nil | exact Sb.refl | exact Sb.app0 | apply Sb.keep | apply Sb.keepApp | apply Sb.cons | apply Sb.app))) (rd_indexAddr rfl rfl (by omega) (by omega)) rfl (by kernel_rfl) ?_
      refine xm_take 9 (m' := 1023) rfl (by kernel_rfl) (by first | exact Sb.refl | exact Sb.nil | (repeat (first | exact Sb.nil | exact Sb.refl | exact Sb.app0 | apply Sb.keep | apply Sb.keepApp | apply Sb.cons | apply Sb.app))) (rd_load1 rfl (hcell 1 _ _ (show (a : Int) + 1 = a + (1 : Nat) by omega) rfl _ (by intro z hz; simp [hz]))) rfl (by kernel_rfl) ?_
      refine xm_take 10 (m' := 2047) rfl (by kernel_rfl) (by first | exact Sb.refl | exact Sb.nil | (repeat (first | exact Sb.nil | exact Sb.refl | exact Sb.app0 | apply Sb.keep | apply Sb.keepApp | apply Sb.cons | apply Sb.app))) (rd_build rfl rfl rfl) rfl (by kernel_rfl) ?_
      refine xm_one 11 (m' := 4095) rfl (by kernel_rfl) rfl (by kernel_rfl) (ef_alloc fun r7 => ?_)
      refine ⟨(by first | exact Sb.refl | exact Sb.nil | (repeat (first | exact Sb.nil | exact Sb.refl | exact Sb.app0 | apply Sb.keep | apply Sb.keepApp | apply Sb.cons | apply Sb.app))), ?_⟩
      refine xm_one 12 (m' := 8191) rfl (by kernel_rfl) rfl (by kernel_rfl) (ef_storeB [] _ rfl rfl (by first | rfl | assumption) rfl rfl rfl ?_)
      refine ⟨(by first | exact Sb.refl | exact Sb.nil | (repeat (first | exact Sb.nil | exact Sb.refl | exact Sb.app0 | apply Sb.keep | apply Sb.keepApp | apply Sb.cons | apply Sb.app))), ?_⟩
      refine xm_done (by kernel_rfl) ?_
      refine xq_seq ?_
      rotate_left
    · exact xq_sub hsub (xq_ret2 (.inl rfl) Try.results10 rfl rfl (hkm (by omega)))
    have hkt : kk ≤ t.length := by omega
    refine xc_join (ι := Int × Nat) (fun s => takeT b0 b1 kk t f = (0, ⟨b0 % 32, b1, t.take s.2, s.1⟩, t.drop kk) ∧ s.2 = kk - s.1.toNat ∧ By s.1 ∧ s.1 ≤ kk) (fun z => (r7, .cells #[.int .u8 (b0 % 32), .int .u8 b1, .slice none 0 0, .int .u8 z.1] 46 (0, 0)) :: (l ++ (bls xs ++ L))) (fun _ => [(0, .slice (some ⟨b, o, none⟩) m c), (4, .slice s xs.length k), (5, .int .i64 a), (6, .int .i64 ((a + 4 + kk : Nat) : Int)), (7, .pointer (some ⟨r7, 0, none⟩))]) ?_ ?_
    · by_cases h32 : b0 / 32 % 2 = 1
      · by_cases hk0 : kk = 0 ∨ kk < t.length
        · focus
            refine xc_seq ?_
            refine xc_region ?_
            refine xo_rd (rd_move rfl) rfl ?_
            refine xo_rd (rd_move rfl) rfl ?_
            refine xo_rd (rd_indexAddr rfl rfl (by omega) (by omega)) rfl ?_
            refine xo_rd (rd_load1 rfl (hcell 0 _ _ (show (a : Int) = a + (0 : Nat) by omega) rfl _ (by intro z hz; simp [hz]))) rfl ?_
            refine xo_rd (rd_quon rfl rfl (by omega) (by omega) (by omega) (by omega)) rfl ?_
            refine xo_rd (rd_remn rfl rfl (by omega) (by omega)) rfl ?_
            refine xo_rd (rd_eql rfl rfl) rfl ?_
            refine xo_nil ?_
            refine xq_seq ?_
            refine xc_dec rfl (fun hw1 => ?_) (fun hw1 => (by exfalso; omega))
            refine xc_seq ?_
            refine xc_seq ?_
            refine xc_region ?_
            refine xo_rd (rd_move rfl) rfl ?_
            refine xo_rd (rd_move rfl) rfl ?_
            refine xo_rd (rd_len rfl) rfl ?_
            refine xo_rd (rd_lss rfl rfl) rfl ?_
            refine xo_rd (rd_move rfl) rfl ?_
            refine xo_dec 79 rfl (fun hw2 => ?_) (fun hw2 => ?_)
            refine xo_gskip rfl rfl rfl rfl ?_
            refine xo_gskip rfl rfl rfl rfl ?_
            refine xo_gskip rfl rfl rfl rfl ?_
            refine xo_gskip rfl rfl rfl rfl ?_
            refine xo_rd (rd_pickt rfl rfl) rfl ?_
            refine xo_nil ?_
            refine xq_seq ?_
            refine xc_condt rfl ?_
            refine xc_seq ?_
            refine xc_region ?_
            refine xo_rd (rd_assign rfl) rfl ?_
            refine xo_rd (rd_assign rfl) rfl ?_
            refine xo_nil ?_
            refine xq_seq ?_
            refine xc_ret ?_
            refine xq_then_ret ?_
            refine xq_then_ret ?_
            refine xq_block_ret ?_
            refine xq_then_ret ?_
            refine xq_block_ret ?_
            refine xq_then_ret ?_
            rotate_left
            refine xo_grd rfl rfl (rd_move rfl) rfl ?_
            refine xo_grd rfl rfl (rd_move rfl) rfl ?_
            refine xo_grd rfl rfl (rd_addn rfl rfl (by omega) (by omega)) rfl ?_
            refine xo_grd rfl rfl (rd_eql rfl rfl) rfl ?_
            refine xo_rd (rd_pickf rfl rfl) rfl ?_
            refine xo_nil ?_
            refine xq_seq ?_
            refine xc_dec rfl (fun hw3 => ?_) (fun hw3 => (by exfalso; omega))
            refine xc_seq ?_
            refine xc_region ?_
            refine xo_rd (rd_assign rfl) rfl ?_
            refine xo_rd (rd_assign rfl) rfl ?_
            refine xo_nil ?_
            refine xq_seq ?_
            refine xc_ret ?_
            refine xq_then_ret ?_
            refine xq_then_ret ?_
            refine xq_block_ret ?_
            refine xq_then_ret ?_
            refine xq_block_ret ?_
            refine xq_then_ret ?_
            rotate_left
          all_goals exact xq_sub (hsub.trans (List.sublist_cons_self _ _)) (xq_ret2 (.inl rfl) Try.results10 rfl rfl (hg 21 (by unfold takeT; rw [if_neg (by omega), if_neg hff, if_neg (by omega), if_pos h32, if_pos (by rcases hk0 with h | h; exact .inr (.inl h); exact .inl h)]) (by decide)))
        · have hz := hbt t[kk - 1] (List.getElem_mem _)
          have hzg : t.getD (kk - 1) 0 = t[kk - 1] := getD_get (by omega)
          have hzc : (b0 :: b1 :: b2 :: b3 :: t)[kk + 3]? = some t[kk - 1] := by
            obtain ⟨j, rfl⟩ : ∃ j, kk = j + 1 := ⟨kk - 1, by omega⟩
            show t[j]? = _
            rw [List.getElem?_eq_getElem (by omega)]; rfl
          generalize t[kk - 1] = z at *
          unfold By at hz
          focus
            refine xc_seq ?_
            refine xc_region ?_
            refine xo_rd (rd_move rfl) rfl ?_
            refine xo_rd (rd_move rfl) rfl ?_
            refine xo_rd (rd_indexAddr rfl rfl (by omega) (by omega)) rfl ?_
            refine xo_rd (rd_load1 rfl (hcell 0 _ _ (show (a : Int) = a + (0 : Nat) by omega) rfl _ (by intro z hz; simp [hz]))) rfl ?_
            refine xo_rd (rd_quon rfl rfl (by omega) (by omega) (by omega) (by omega)) rfl ?_
            refine xo_rd (rd_remn rfl rfl (by omega) (by omega)) rfl ?_
            refine xo_rd (rd_eql rfl rfl) rfl ?_
            refine xo_nil ?_
            refine xq_seq ?_
            refine xc_dec rfl (fun hw1 => ?_) (fun hw1 => (by exfalso; omega))
            refine xc_seq ?_
            refine xc_seq ?_
            refine xc_region ?_
            refine xo_rd (rd_move rfl) rfl ?_
            refine xo_rd (rd_move rfl) rfl ?_
            refine xo_rd (rd_len rfl) rfl ?_
            refine xo_rd (rd_lss rfl rfl) rfl ?_
            refine xo_rd (rd_move rfl) rfl ?_
            refine xo_dec 79 rfl (fun hw2 => (by exfalso; omega)) (fun hw2 => ?_)
            refine xo_grd rfl rfl (rd_move rfl) rfl ?_
            refine xo_grd rfl rfl (rd_move rfl) rfl ?_
            refine xo_grd rfl rfl (rd_addn rfl rfl (by omega) (by omega)) rfl ?_
            refine xo_grd rfl rfl (rd_eql rfl rfl) rfl ?_
            refine xo_rd (rd_pickf rfl rfl) rfl ?_
            refine xo_nil ?_
            refine xq_seq ?_
            refine xc_dec rfl (fun hw3 => (by exfalso; omega)) (fun hw3 => ?_)
            refine xc_skip ?_
            refine xq_seq ?_
            refine xc_seq ?_
            refine xc_region ?_
            refine xo_rd (rd_move rfl) rfl ?_
            refine xo_rd (rd_move rfl) rfl ?_
            refine xo_rd (rd_subn rfl rfl (by omega) (by omega)) rfl ?_
            refine xo_rd (rd_indexAddr rfl rfl (by omega) (by omega)) rfl ?_
            refine xo_rd (rd_load1 rfl (hcell (kk + 3) _ _ (show ((a + 4 + kk : Nat) : Int) - 1 = a + (kk + 3 : Nat) by omega) hzc _ (by intro z hz; simp [hz]))) rfl ?_
            refine xo_rd (rd_fieldAddr rfl) rfl ?_
            refine xo_ef rfl (ef_store1 [] _ rfl rfl (by first | rfl | assumption) rfl rfl rfl ?_)
            refine xo_nil ?_
            refine xq_seq ?_
            refine xc_seq ?_
            refine xc_region ?_
            refine xo_rd (rd_fieldAddr rfl) rfl ?_
            refine xo_rd (rd_load1 rfl (Cl.o0 rfl)) rfl ?_
            refine xo_rd (rd_eql rfl rfl) rfl ?_
            refine xo_rd (rd_move rfl) rfl ?_
            refine xo_dec 94 rfl (fun hw4 => ?_) (fun hw4 => ?_)
            refine xo_gskip rfl rfl rfl rfl ?_
            refine xo_gskip rfl rfl rfl rfl ?_
            refine xo_gskip rfl rfl rfl rfl ?_
            refine xo_gskip rfl rfl rfl rfl ?_
            refine xo_rd (rd_pickt rfl rfl) rfl ?_
            refine xo_rd (rd_move rfl) rfl ?_
            refine xo_gskip rfl rfl rfl rfl ?_
            refine xo_gskip rfl rfl rfl rfl ?_
            refine xo_gskip rfl rfl rfl rfl ?_
            refine xo_gskip rfl rfl rfl rfl ?_
            refine xo_gskip rfl rfl rfl rfl ?_
            refine xo_gskip rfl rfl rfl rfl ?_
            refine xo_gskip rfl rfl rfl rfl ?_
            refine xo_gskip rfl rfl rfl rfl ?_
            refine xo_rd (rd_pickt rfl rfl) rfl ?_
            refine xo_nil ?_
            refine xq_seq ?_
            refine xc_condt rfl ?_
            refine xc_seq ?_
            refine xc_region ?_
            refine xo_rd (rd_assign rfl) rfl ?_
            refine xo_rd (rd_assign rfl) rfl ?_
            refine xo_nil ?_
            refine xq_seq ?_
            refine xc_ret ?_
            refine xq_then_ret ?_
            refine xq_block_ret ?_
            refine xq_then_ret ?_
            refine xq_block_ret ?_
            refine xq_then_ret ?_
            rotate_left
            refine xo_grd rfl rfl (rd_fieldAddr rfl) rfl ?_
            refine xo_grd rfl rfl (rd_load1 rfl (Cl.o0 rfl)) rfl ?_
            refine xo_grd rfl rfl (rd_remn rfl rfl (by omega) (by omega)) rfl ?_
            refine xo_grd rfl rfl (rd_neq rfl rfl) rfl ?_
            refine xo_rd (rd_pickf rfl rfl) rfl ?_
            refine xo_rd (rd_move rfl) rfl ?_
            refine xo_ndec 100 rfl (fun hw5 => ?_) (fun hw5 => ?_)
            refine xo_gskip rfl rfl rfl rfl ?_
            refine xo_gskip rfl rfl rfl rfl ?_
            refine xo_gskip rfl rfl rfl rfl ?_
            refine xo_gskip rfl rfl rfl rfl ?_
            refine xo_gskip rfl rfl rfl rfl ?_
            refine xo_gskip rfl rfl rfl rfl ?_
            refine xo_gskip rfl rfl rfl rfl ?_
            refine xo_gskip rfl rfl rfl rfl ?_
            refine xo_rd (rd_pickt rfl rfl) rfl ?_
            refine xo_nil ?_
            refine xq_seq ?_
            refine xc_condt rfl ?_
            refine xc_seq ?_
            refine xc_region ?_
            refine xo_rd (rd_assign rfl) rfl ?_
            refine xo_rd (rd_assign rfl) rfl ?_
            refine xo_nil ?_
            refine xq_seq ?_
            refine xc_ret ?_
            refine xq_then_ret ?_
            refine xq_block_ret ?_
            refine xq_then_ret ?_
            refine xq_block_ret ?_
            refine xq_then_ret ?_
            rotate_left
            refine xo_grd rfl rfl (rd_fieldAddr rfl) rfl ?_
            refine xo_grd rfl rfl (rd_load1 rfl (Cl.o0 rfl)) rfl ?_
            refine xo_grd rfl rfl (rd_convn rfl (by omega) (by omega)) rfl ?_
            refine xo_grd rfl rfl (rd_move rfl) rfl ?_
            refine xo_grd rfl rfl (rd_move rfl) rfl ?_
            refine xo_grd rfl rfl (rd_subn rfl rfl (by omega) (by omega)) rfl ?_
            refine xo_grd rfl rfl (rd_subn rfl rfl (by omega) (by omega)) rfl ?_
            refine xo_grd rfl rfl (rd_gtr rfl rfl) rfl ?_
            refine xo_rd (rd_pickf rfl rfl) rfl ?_
            refine xo_nil ?_
            refine xq_seq ?_
            refine xc_dec rfl (fun hw6 => ?_) (fun hw6 => ?_)
            refine xc_seq ?_
            refine xc_region ?_
            refine xo_rd (rd_assign rfl) rfl ?_
            refine xo_rd (rd_assign rfl) rfl ?_
            refine xo_nil ?_
            refine xq_seq ?_
            refine xc_ret ?_
            refine xq_then_ret ?_
            refine xq_block_ret ?_
            refine xq_then_ret ?_
            refine xq_block_ret ?_
            refine xq_then_ret ?_
            rotate_left
            refine xc_skip ?_
            rotate_left
          iterate 3
            · exact xq_sub (hsub.trans (List.sublist_cons_self _ _)) (xq_ret2 (.inl rfl) Try.results10 rfl rfl (hg 21 (by unfold takeT; rw [if_neg (by omega), if_neg hff, if_neg (by omega), if_pos h32, hzg, if_pos (by omega)]) (by decide)))
          refine xq_joined ((z, kk - z.toNat) : Int × Nat) ⟨?_, rfl, hz, by dsimp only; omega⟩ rfl (by repeat (first | exact keep_nil | refine keep_cons rfl ?_))
          dsimp only
          unfold takeT
          rw [if_neg (by omega), if_neg hff, if_neg (by omega), if_pos h32, hzg, if_neg (by omega), List.drop_of_length_le (by omega)]
      · focus
          refine xc_seq ?_
          refine xc_region ?_
          refine xo_rd (rd_move rfl) rfl ?_
          refine xo_rd (rd_move rfl) rfl ?_
          refine xo_rd (rd_indexAddr rfl rfl (by omega) (by omega)) rfl ?_
          refine xo_rd (rd_load1 rfl (hcell 0 _ _ (show (a : Int) = a + (0 : Nat) by omega) rfl _ (by intro z hz; simp [hz]))) rfl ?_
          refine xo_rd (rd_quon rfl rfl (by omega) (by omega) (by omega) (by omega)) rfl ?_
          refine xo_rd (rd_remn rfl rfl (by omega) (by omega)) rfl ?_
          refine xo_rd (rd_eql rfl rfl) rfl ?_
          refine xo_nil ?_
          refine xq_seq ?_
          refine xc_dec rfl (fun hw1 => (by exfalso; omega)) (fun hw1 => ?_)
          refine xc_skip ?_
        refine xq_joined ((0, kk) : Int × Nat) ⟨?_, rfl, (⟨by decide, by decide⟩ : By 0), by dsimp only; omega⟩ rfl (by repeat (first | exact keep_nil | refine keep_cons rfl ?_))
        dsimp only
        unfold takeT
        rw [if_neg (by omega), if_neg hff, if_neg (by omega), if_neg h32]
    · rintro ⟨pd, n'⟩ ⟨ht, hn, hpd, hpk⟩
      dsimp only at ht hn hpd hpk ⊢
      have hpd0 := hpd
      unfold By at hpd
      have hnl : (t.take n').length = n' := by rw [List.length_take]; omega
      have hap : ∀ L', (∀ z, z ∈ L → z ∈ L') → Rs W L' (slp (some ⟨b, o, none⟩) c ((a : Int) + 4).toNat 1) (ints .u8 (t.take n')) := fun L' h => by
        rw [show ((a : Int) + 4).toNat = a + 4 from by omega]
        have h1 := (hr.mono h).slp c (a + 4) (by rw [ints_len]; omega)
        rw [← ints_drop, ← List.drop_drop, hd] at h1
        exact Rs.ints_take h1 n'
      have hX : ((((a + 4 + kk : Nat) : Int)) - pd).toNat - ((a : Int) + 4).toNat = n' := by omega
      refine xc_join (ι := Pb) (fun x => x.q = ⟨b0 % 32, b1, t.take n', pd⟩ ∧ x.Ok) (fun x => (r7, .cells x.enc.toArray 46 (0, 0)) :: (l ++ (bls xs ++ (x.l ++ L)))) (fun _ => [(0, .slice (some ⟨b, o, none⟩) m c), (4, .slice s xs.length k), (6, .int .i64 ((a + 4 + kk : Nat) : Int)), (7, .pointer (some ⟨r7, 0, none⟩))]) ?_ ?_
      · skip
        focus
          refine xc_drawM [0, 1, 0, 0, 8, 0, 0, 64, 128, 288, 532, 1026, 4095, 8191] [0, 1, 0, 0, 8, 0, 0, 64, 128, 288, 532, 1026, 4095, 8191] [] (by kernel_rfl) (by kernel_rfl) (by kernel_rfl) ?_
          refine xm_take 0 (m' := 1) rfl (by kernel_rfl) (by first | exact Sb.refl | exact Sb.nil | (repeat (first | exact Sb.nil | exact Sb.refl | exact Sb.app0 | apply Sb.keep | apply Sb.keepApp | apply Sb.cons | apply Sb.app))) (rd_fieldAddr rfl) rfl (by kernel_rfl) ?_
          refine xm_take 2 (m' := 5) rfl (by kernel_rfl) (by first | exact Sb.refl | exact Sb.nil | (repeat (first | exact Sb.nil | exact Sb.refl | exact Sb.app0 | apply Sb.keep | apply Sb.keepApp | apply Sb.cons | apply Sb.app))) (rd_move rfl) rfl (by kernel_rfl) ?_
          refine xm_take 3 (m' := 13) rfl (by kernel_rfl) (by first | exact Sb.refl | exact Sb.nil | (repeat (first | exact Sb.nil | exact Sb.refl | exact Sb.app0 | apply Sb.keep | apply Sb.keepApp | apply Sb.cons | apply Sb.app))) (rd_move rfl) rfl (by kernel_rfl) ?_
          refine xm_take 4 (m' := 29) rfl (by kernel_rfl) (by first | exact Sb.refl | exact Sb.nil | (repeat (first | exact Sb.nil | exact Sb.refl | exact Sb.app0 | apply Sb.keep | apply Sb.keepApp | apply Sb.cons | apply Sb.app))) (rd_addn rfl rfl (by omega) (by omega)) rfl (by kernel_rfl) ?_
          refine xm_take 5 (m' := 61) rfl (by kernel_rfl) (by first | exact Sb.refl | exact Sb.nil | (repeat (first | exact Sb.nil | exact Sb.refl | exact Sb.app0 | apply Sb.keep | apply Sb.keepApp | apply Sb.cons | apply Sb.app))) (rd_move rfl) rfl (by kernel_rfl) ?_
          refine xm_take 6 (m' := 125) rfl (by kernel_rfl) (by first | exact Sb.refl | exact Sb.nil | (repeat (first | exact Sb.nil | exact Sb.refl | exact Sb.app0 | apply Sb.keep | apply Sb.keepApp | apply Sb.cons | apply Sb.app))) (rd_fieldAddr rfl) rfl (by kernel_rfl) ?_
          refine xm_two 1 7 (mi := 127) (mk := 253) rfl rfl (by kernel_rfl) rfl rfl (by kernel_rfl) (by kernel_rfl) (ef_rd (rd_load1 rfl (Cl.o0 rfl)) ⟨(by first | exact Sb.refl | exact Sb.nil | (repeat (first | exact Sb.nil | exact Sb.refl | exact Sb.app0 | apply Sb.keep | apply Sb.keepApp | apply Sb.cons | apply Sb.app))), ?_⟩) (ef_rd (rd_load1 rfl (Cl.o0 rfl)) ⟨(by first | exact Sb.refl | exact Sb.nil | (repeat (first | exact Sb.nil | exact Sb.refl | exact Sb.app0 | apply Sb.keep | apply Sb.keepApp | apply Sb.cons | apply Sb.app))), ?_⟩)
          refine xm_one 7 (m' := 255) rfl (by kernel_rfl) rfl (by kernel_rfl) (ef_rd (rd_load1 rfl (Cl.o0 rfl)) ?_)
          refine ⟨(by first | exact Sb.refl | exact Sb.nil | (repeat (first | exact Sb.nil | exact Sb.refl | exact Sb.app0 | apply Sb.keep | apply Sb.keepApp | apply Sb.cons | apply Sb.app))), ?_⟩
          refine xm_take 8 (m' := 511) rfl (by kernel_rfl) (by first | exact Sb.refl | exact Sb.nil | (repeat (first | exact Sb.nil | exact Sb.refl | exact Sb.app0 | apply Sb.keep | apply Sb.keepApp | apply Sb.cons | apply Sb.app))) (rd_convn rfl (by omega) (by omega)) rfl (by kernel_rfl) ?_
          refine xm_take 9 (m' := 1023) rfl (by kernel_rfl) (by first | exact Sb.refl | exact Sb.nil | (repeat (first | exact Sb.nil | exact Sb.refl | exact Sb.app0 | apply Sb.keep | apply Sb.keepApp | apply Sb.cons | apply Sb.app))) (rd_subn rfl rfl (by omega) (by omega)) rfl (by kernel_rfl) ?_
          refine xm_take 10 (m' := 2047) rfl (by kernel_rfl) (by first | exact Sb.refl | exact Sb.nil | (repeat (first | exact Sb.nil | exact Sb.refl | exact Sb.app0 | apply Sb.keep | apply Sb.keepApp | apply Sb.cons | apply Sb.app))) (rd_slLH rfl rfl rfl (by omega) (by omega) (by omega)) rfl (by kernel_rfl) ?_
          refine xm_one 11 (m' := 4095) rfl (by kernel_rfl) rfl (by kernel_rfl) (ef_appendS [_] (l ++ (bls xs ++ L)) [] (news := ints .u8 (t.take n')) rfl rfl SlO.nil rfl (hap _ (by intro z hz; simp [hz])) (by rw [ints_len]; omega) (ints_one _ _) (by decide) (by omega) (by omega) fun q' k' l' hO' hk' => ?_)
          refine ⟨(by first | exact Sb.refl | exact Sb.nil | (repeat (first | exact Sb.nil | exact Sb.refl | exact Sb.app0 | apply Sb.keep | apply Sb.keepApp | apply Sb.cons | apply Sb.app))), ?_⟩
          refine xm_take 12 (m' := 8191) rfl (by kernel_rfl) (by first | exact Sb.refl | exact Sb.nil | (repeat (first | exact Sb.nil | exact Sb.refl | exact Sb.app0 | apply Sb.keep | apply Sb.keepApp | apply Sb.cons | apply Sb.app))) (rd_fieldAddr rfl) rfl (by kernel_rfl) ?_
          refine xm_one 13 (m' := 16383) rfl (by kernel_rfl) rfl (by kernel_rfl) (ef_store1 [] _ rfl rfl (by first | rfl | assumption) rfl rfl rfl ?_)
          refine ⟨(by first | exact Sb.refl | exact Sb.nil | (repeat (first | exact Sb.nil | exact Sb.refl | exact Sb.app0 | apply Sb.keep | apply Sb.keepApp | apply Sb.cons | apply Sb.app))), ?_⟩
          refine xm_done (by kernel_rfl) ?_
          rotate_left
          refine xm_take 8 (m' := 509) rfl (by kernel_rfl) (by first | exact Sb.refl | exact Sb.nil | (repeat (first | exact Sb.nil | exact Sb.refl | exact Sb.app0 | apply Sb.keep | apply Sb.keepApp | apply Sb.cons | apply Sb.app))) (rd_convn rfl (by omega) (by omega)) rfl (by kernel_rfl) ?_
          refine xm_take 9 (m' := 1021) rfl (by kernel_rfl) (by first | exact Sb.refl | exact Sb.nil | (repeat (first | exact Sb.nil | exact Sb.refl | exact Sb.app0 | apply Sb.keep | apply Sb.keepApp | apply Sb.cons | apply Sb.app))) (rd_subn rfl rfl (by omega) (by omega)) rfl (by kernel_rfl) ?_
          refine xm_take 10 (m' := 2045) rfl (by kernel_rfl) (by first | exact Sb.refl | exact Sb.nil | (repeat (first | exact Sb.nil | exact Sb.refl | exact Sb.app0 | apply Sb.keep | apply Sb.keepApp | apply Sb.cons | apply Sb.app))) (rd_slLH rfl rfl rfl (by omega) (by omega) (by omega)) rfl (by kernel_rfl) ?_
          refine xm_one 1 (m' := 2047) rfl (by kernel_rfl) rfl (by kernel_rfl) (ef_rd (rd_load1 rfl (Cl.o0 rfl)) ?_)
          refine ⟨(by first | exact Sb.refl | exact Sb.nil | (repeat (first | exact Sb.nil | exact Sb.refl | exact Sb.app0 | apply Sb.keep | apply Sb.keepApp | apply Sb.cons | apply Sb.app))), ?_⟩
          refine xm_one 11 (m' := 4095) rfl (by kernel_rfl) rfl (by kernel_rfl) (ef_appendS [_] (l ++ (bls xs ++ L)) [] (news := ints .u8 (t.take n')) rfl rfl SlO.nil rfl (hap _ (by intro z hz; simp [hz])) (by rw [ints_len]; omega) (ints_one _ _) (by decide) (by omega) (by omega) fun q' k' l' hO' hk' => ?_)
          refine ⟨(by first | exact Sb.refl | exact Sb.nil | (repeat (first | exact Sb.nil | exact Sb.refl | exact Sb.app0 | apply Sb.keep | apply Sb.keepApp | apply Sb.cons | apply Sb.app))), ?_⟩
          refine xm_take 12 (m' := 8191) rfl (by kernel_rfl) (by first | exact Sb.refl | exact Sb.nil | (repeat (first | exact Sb.nil | exact Sb.refl | exact Sb.app0 | apply Sb.keep | apply Sb.keepApp | apply Sb.cons | apply Sb.app))) (rd_fieldAddr rfl) rfl (by kernel_rfl) ?_
          refine xm_one 13 (m' := 16383) rfl (by kernel_rfl) rfl (by kernel_rfl) (ef_store1 [] _ rfl rfl (by first | rfl | assumption) rfl rfl rfl ?_)
          refine ⟨(by first | exact Sb.refl | exact Sb.nil | (repeat (first | exact Sb.nil | exact Sb.refl | exact Sb.app0 | apply Sb.keep | apply Sb.keepApp | apply Sb.cons | apply Sb.app))), ?_⟩
          refine xm_done (by kernel_rfl) ?_
          rotate_left
        all_goals rw [hX] at hO'
        all_goals rw [hX]
        all_goals rw [Nat.zero_add n'] at hO'
        all_goals rw [Nat.zero_add n']
        all_goals refine xq_permT [_] (perm_mv l' l (bls xs) L) ?_
        all_goals refine xq_joined (⟨⟨b0 % 32, b1, t.take n', pd⟩, q', k', l'⟩ : Pb) ⟨rfl, by unfold Pb.Ok; dsimp only; rw [hnl]; exact hO'⟩ ?_ (by repeat (first | exact keep_nil | refine keep_cons rfl ?_))
        all_goals (unfold Pb.enc Pc.enc; dsimp only; rw [hnl]; rfl)
      · rintro x ⟨hxq, hxo⟩
        focus
          refine xc_seq ?_
          refine xc_region ?_
          refine xo_rd (rd_move rfl) rfl ?_
          refine xo_rd (rd_loadB rfl Kn.o0 (by rfl)) rfl ?_
          refine xo_ef rfl (ef_sliceA (vs := x.enc) rfl rfl (by rw [Pb.len]; decide) (by rw [Pb.len]; decide) fun r125 => ?_)
          refine xo_ef rfl (ef_appendS [_, _] (bls xs ++ (x.l ++ L)) l (news := x.enc) rfl rfl hsl rfl (Rs.fresh (List.Mem.head _)) rfl rfl (by decide) (by omega) (by omega) fun s' k' l' hO' hk' => ?_)
          refine xo_rd (rd_assign rfl) rfl ?_
          refine xo_nil ?_
          refine xq_seq ?_
          refine xc_region ?_
          refine xo_rd (rd_move rfl) rfl ?_
          refine xo_rd (rd_assign rfl) rfl ?_
          refine xo_nil ?_
          refine xq_block ?_
        obtain ⟨K', rfl⟩ : ∃ K', K = K' + 1 := ⟨K - 1, by omega⟩
        have hl : (xs ++ [x]).length = xs.length + 1 := by simp
        have ht' : takeP (b0 :: b1 :: b2 :: b3 :: t) f = (0, x.q, t.drop kk) := by
          show takeT b0 b1 (4 * vl [b2, b3]).toNat t f = _
          rw [hw, ← hkk, ht, hxq]
        have hne' : ¬ (b0 :: b1 :: b2 :: b3 :: t = [] ∧ f = false) := fun h => by cases h.1
        have hdd : bs.drop (a + 4 + kk) = t.drop kk := by rw [show a + 4 + kk = a + (4 + kk) from by omega, ← List.drop_drop, hd, Nat.add_comm 4 kk]; rfl
        refine xq_sub (List.sublist_append_right [_, _] _) (xq_roundI (⟨K', xs ++ [x], a + 4 + kk, s', k', l'⟩ : RpS) ⟨?_, by dsimp only; omega, by dsimp only; omega, by dsimp only; rw [hl]; omega, ?_, ?_, ?_, ?_⟩ (by dsimp only; omega) ?_ ?_)
        · dsimp only
          rw [heq, comb_ok ht' hne', List.map_append, List.map_singleton, hdd, show (xs ++ [x]).isEmpty = false from by cases xs <;> rfl]
        · dsimp only
          rw [show (xs ++ [x]).isEmpty = false from by cases xs <;> rfl]; exact (decide_eq_false (by omega)).symm
        · intro z hz
          rcases List.mem_append.1 hz with h | h
          · exact hok z h
          · rw [List.mem_singleton.1 h]; exact hxo
        · intro z hz
          rcases List.mem_append.1 hz with h | h
          · exact hrg z h
          · rw [List.mem_singleton.1 h, hxq]
            refine ⟨?_, g1, By.take hbt _, hpd0⟩
            unfold By; dsimp only; omega
        · dsimp only
          rw [hl, List.flatMap_append, List.flatMap_singleton]; exact hO'
        · dsimp only
          rw [bls_snoc, List.append_assoc]
        · dsimp only
          rw [hl]
          exact (by repeat (first | exact keep_nil | refine keep_cons rfl ?_))
  · have ham : a = m := by omega
    have hdn : bs.drop a = [] := List.drop_eq_nil_iff.2 (by omega)
    rw [show splitL (bs.length + 1) true bs = (xs.map Pb.q, 0) from by rw [heq, ← hf, decide_eq_false (show ¬ a = 0 by omega), hdn]; exact comb_end]
    focus
      refine xc_seq ?_
      refine xc_seq ?_
      refine xc_region ?_
      refine xo_rd (rd_move rfl) rfl ?_
      refine xo_rd (rd_move rfl) rfl ?_
      refine xo_rd (rd_len rfl) rfl ?_
      refine xo_rd (rd_lss rfl rfl) rfl ?_
      refine xo_rd (rd_move rfl) rfl ?_
      refine xo_dec 12 rfl (fun h1 => (by exfalso; omega)) (fun h1 => ?_)
      refine xo_grd rfl rfl (rd_move rfl) rfl ?_
      refine xo_grd rfl rfl (rd_eql rfl rfl) rfl ?_
      refine xo_rd (rd_pickf rfl rfl) rfl ?_
      refine xo_nil ?_
      refine xq_seq ?_
      refine xc_dec rfl (fun h2 => (by exfalso; omega)) (fun h2 => ?_)
      refine xc_exit ?_
      refine xq_then_exit ?_
      refine xq_then_exit ?_
      refine xq_block_hit ?_
      refine xq_seq ?_
      refine xc_seq ?_
      refine xc_region ?_
      refine xo_rd (rd_move rfl) rfl ?_
      refine xo_rd (rd_assign rfl) rfl ?_
      refine xo_rd (rd_assign rfl) rfl ?_
      refine xo_nil ?_
      refine xq_seq ?_
      refine xc_ret ?_
    exact xq_ret2 (.inl rfl) Try.results10 rfl rfl ⟨xs, s, k, l, rfl, rfl, hok, hrg, hsl, rfl⟩
end Go.Proofs.Ytohlaabclifbfaa.X
