/-
  What is joined is split as it was; what is split is right, and joined as the same bytes, but for the padding's: plain laws, no program.
-/
import Derived.Test.YtohlaabclifbfaaB9
namespace Go.Proofs.Ytohlaabclifbfaa.X
open Go Go.RowKit
set_option linter.unusedVariables false
set_option linter.unusedSimpArgs false
theorem tailL_pos {pd : Int} (h : 0 < pd) : tailL pd = List.replicate (pd - 1).toNat 0 ++ [pd] := by unfold tailL; rw [if_pos h]
theorem tailL_zero {pd : Int} (h : ¬ 0 < pd) : tailL pd = [] := by unfold tailL; rw [if_neg h]
theorem take_put (q : Pc) (rest : List Int) (f : Bool) (hg : q.Rg) (hR : q.Right) (hf : f = true → isFirst q.kd = true) (hp : 0 < q.pd → rest = []) : takeP (putP q ++ rest) f = (0, q, rest) := by
  obtain ⟨ct, kd, bd, pd⟩ := q
  have g1 := hg.ct; have g2 := hg.kd; have g4 := hg.pd
  obtain ⟨e1, e2, e3, e4⟩ := hR
  dsimp only [By] at g1 g2 g4 e1 e2 e3 e4 hf hp
  obtain ⟨w, hw⟩ : ∃ w, w = ((bd.length : Int) + pd) / 4 := ⟨_, rfl⟩
  have hwb : 0 ≤ w ∧ w ≤ 65535 := by omega
  obtain ⟨F, hF⟩ : ∃ F, F = fst6 ⟨ct, kd, bd, pd⟩ := ⟨_, rfl⟩
  have hFv : F / 64 = 2 ∧ F % 32 = ct ∧ (F / 32 % 2 = if 0 < pd then 1 else 0) := by
    have : F = 128 + ct + if 0 < pd then 32 else 0 := hF
    by_cases hp : 0 < pd
    · rw [if_pos hp] at this ⊢; omega
    · rw [if_neg hp] at this ⊢; omega
  have hb : putP ⟨ct, kd, bd, pd⟩ ++ rest = F :: kd :: (w / 256 % 256) :: (w % 256) :: (bd ++ (tailL pd ++ rest)) := by
    rw [hF, hw]
    show [fst6 _, kd] ++ be2 _ ++ (bd ++ tailL pd) ++ rest = _
    rw [List.append_assoc, List.append_assoc, List.append_assoc]
    rfl
  have hv : vl [w / 256 % 256, w % 256] = w := vl_be2 w hwb.1 hwb.2
  rw [hb]
  show takeT F kd (4 * vl [w / 256 % 256, w % 256]).toNat (bd ++ (tailL pd ++ rest)) f = _
  rw [hv]
  obtain ⟨k, hk⟩ : ∃ k : Nat, (4 * w).toNat = k := ⟨_, rfl⟩
  have hkv : (k : Int) = (bd.length : Int) + pd := by omega
  rw [hk]
  have htl := tailL_len pd g4.1
  have hff : ¬ (f = true ∧ isFirst kd = false) := fun h => by rw [hf h.1] at h; cases h.2
  unfold takeT
  rw [if_neg (by omega), if_neg hff, if_neg (by rw [List.length_append, List.length_append]; omega)]
  by_cases hpd : 0 < pd
  · have hr := hp hpd
    subst hr
    rw [List.append_nil]
    rw [if_pos hpd] at hFv
    have hlen : (bd ++ tailL pd).length = k := by rw [List.length_append]; omega
    have hlast : (bd ++ tailL pd).getD (k - 1) 0 = pd := by
      rw [← hlen, tailL_pos hpd, ← List.append_assoc, List.length_append, List.length_singleton, Nat.add_sub_cancel]
      simp [List.getD_eq_getElem?_getD]
    rw [if_pos hFv.2.2, hlast, if_neg (by rw [hlen]; omega), hFv.2.1, show k - pd.toNat = bd.length from by omega, List.take_left]
  · rw [if_neg hpd] at hFv
    have h0 : pd = 0 := by omega
    subst h0
    rw [if_neg (by omega), hFv.2.1, tailL_zero (by decide), List.nil_append, show k = bd.length from by omega, List.take_left, List.drop_left]
theorem putP_ge (q : Pc) (hg : q.Rg) : 4 ≤ (putP q).length := by
  have := putP_len q hg
  have := hg.pd.1
  omega
theorem split_join : ∀ (qs : List Pc) (K : Nat) (f : Bool), qs.length + 1 ≤ K → (∀ q, q ∈ qs → q.Rg) → okJ qs = true → (f = true → qs ≠ [] ∧ isFirst (kind0 qs) = true) → splitL K f (qs.flatMap putP) = (qs, 0)
  | [], 0, f, hK, _, _, _ => absurd hK (by decide)
  | [], K + 1, f, _, _, _, hf => by
    have : f = false := by cases f with
      | false => rfl
      | true => exact absurd rfl (hf rfl).1
    subst this
    rfl
  | q :: r, 0, f, hK, _, _, _ => by simp at hK
  | q :: r, K + 1, f, hK, hg, hok, hf => by
    have hok2 : okJ (q :: r) = (decide q.Right && (decide (q.pd ≤ 0) || r.isEmpty) && okJ r) := rfl
    rw [hok2] at hok
    simp only [Bool.and_eq_true, Bool.or_eq_true, decide_eq_true_eq, List.isEmpty_iff] at hok
    obtain ⟨⟨hR, hlast⟩, hokr⟩ := hok
    have hqg := hg q (List.mem_cons_self ..)
    have htk := take_put q (r.flatMap putP) f hqg hR (fun h => (hf h).2) (fun h => by rcases hlast with h2 | h2; omega; rw [h2]; rfl)
    have ih := split_join r K false (by simp at hK; omega) (fun z hz => hg z (List.mem_cons_of_mem _ hz)) hokr (fun h => by cases h)
    rw [List.flatMap_cons]
    have hne : ¬ (putP q ++ r.flatMap putP = [] ∧ f = false) := fun h => by
      have h1 := (List.append_eq_nil_iff.1 h.1).1
      have h2 := putP_ge q hqg
      rw [h1] at h2
      exact absurd h2 (by decide)
    unfold splitL
    rw [if_neg hne, htk, if_neg (fun h => h rfl), ih, if_neg (fun h => h rfl)]
theorem takeP_inv {b : List Int} {f : Bool} {q : Pc} {r : List Int} (h : takeP b f = (0, q, r)) (hb : ∀ x, x ∈ b → By x) : q.Rg ∧ q.Right ∧ (f = true → isFirst q.kd = true) ∧ (0 < q.pd → r = []) ∧ ∃ X pb, b = X ++ (pb ++ r) ∧ putP q = X ++ tailL q.pd ∧ (pb.length : Int) = q.pd ∧ (0 < q.pd → pb.getD (pb.length - 1) 0 = q.pd) := by
  have hrg := (takeP_by (b := b) (f := f) hb).1
  rw [h] at hrg
  rcases b with _ | ⟨b0, _ | ⟨b1, _ | ⟨b2, _ | ⟨b3, t⟩⟩⟩⟩
  · cases h
  · cases h
  · cases h
  · cases h
  have g0 := hb b0 (by simp); have g1 := hb b1 (by simp); have g2 := hb b2 (by simp); have g3 := hb b3 (by simp)
  have hbt : ∀ x, x ∈ t → By x := fun x hx => hb x (by simp [hx])
  replace h : takeT b0 b1 (4 * vl [b2, b3]).toNat t f = (0, q, r) := h
  obtain ⟨w, hw⟩ : ∃ w, vl [b2, b3] = w := ⟨_, rfl⟩
  have hwb : 0 ≤ w ∧ w ≤ 65535 := by rw [← hw]; unfold By at g2 g3; simp only [vl, List.foldl]; omega
  have hbe := be2_vl b2 b3 g2 g3
  rw [hw] at h hbe
  obtain ⟨k, hk⟩ : ∃ k : Nat, (4 * w).toNat = k := ⟨_, rfl⟩
  have hkv : (k : Int) = 4 * w := by omega
  rw [hk] at h
  refine ⟨hrg, ?_⟩
  unfold By at g0 g1
  unfold takeT at h
  split at h
  · cases h
  · rename_i h64
    split at h
    · cases h
    · rename_i hff
      have hff2 : f = true → isFirst b1 = true := fun hf => by
        cases hi : isFirst b1 with
        | true => rfl
        | false => exact absurd ⟨hf, hi⟩ hff
      split at h
      · cases h
      · rename_i htk
        split at h
        · rename_i h32
          split at h
          · cases h
          · rename_i hz
            simp only [Prod.mk.injEq, true_and] at h
            obtain ⟨rfl, rfl⟩ := h
            obtain ⟨z, hzz⟩ : ∃ z, t.getD (k - 1) 0 = z := ⟨_, rfl⟩
            rw [hzz] at hz hrg ⊢
            have hzb := hrg.pd
            unfold By at hzb
            dsimp only at hzb
            obtain ⟨j, hj⟩ : ∃ j : Nat, z = j := ⟨z.toNat, by omega⟩
            have hlt : (t.take (k - z.toNat)).length = k - j := by rw [List.length_take]; omega
            refine ⟨⟨?_, ?_, ?_, ?_⟩, hff2, fun _ => rfl, [b0, b1] ++ be2 w ++ t.take (k - z.toNat), t.drop (k - z.toNat), ?_, ?_, ?_, fun _ => ?_⟩
            · dsimp only; omega
            · dsimp only; rw [hlt]; omega
            · dsimp only; omega
            · dsimp only; rw [hlt]; omega
            · rw [hbe, List.append_nil, List.append_assoc, List.take_append_drop]; rfl
            · unfold putP fst6
              dsimp only
              rw [hlt, if_pos (by omega), show ((k - j : Nat) : Int) + z = 4 * w from by omega, show 4 * w / 4 = w from by omega, show 128 + b0 % 32 + 32 = b0 from by omega]
              simp only [List.append_assoc]
            · dsimp only; rw [List.length_drop]; omega
            · dsimp only
              rw [List.length_drop, List.getD_eq_getElem?_getD, List.getElem?_drop, show k - z.toNat + (t.length - (k - z.toNat) - 1) = k - 1 from by omega, ← List.getD_eq_getElem?_getD]
              exact hzz
        · rename_i h32
          simp only [Prod.mk.injEq, true_and] at h
          obtain ⟨rfl, rfl⟩ := h
          have hlt : (t.take k).length = k := by rw [List.length_take]; omega
          refine ⟨⟨?_, ?_, ?_, ?_⟩, hff2, fun h => absurd (show (0 : Int) < 0 from h) (by decide), [b0, b1] ++ be2 w ++ t.take k, [], ?_, ?_, rfl, fun h => absurd (show (0 : Int) < 0 from h) (by decide)⟩
          · dsimp only; omega
          · dsimp only; rw [hlt]; omega
          · dsimp only; decide
          · dsimp only; rw [hlt]; omega
          · rw [hbe, List.nil_append, List.append_assoc, List.take_append_drop]; rfl
          · unfold putP fst6
            dsimp only
            rw [hlt, if_neg (by decide), show (k : Int) + 0 = 4 * w from by omega, show 4 * w / 4 = w from by omega, show 128 + b0 % 32 + 0 = b0 from by omega]
            simp only [List.append_assoc]
theorem split_inv : ∀ (K : Nat) (f : Bool) (b : List Int) (qs : List Pc), b.length + 1 ≤ K → (∀ x, x ∈ b → By x) → splitL K f b = (qs, 0) →
    okJ qs = true ∧ (f = true → qs ≠ [] ∧ isFirst (kind0 qs) = true) ∧ ∃ X pb pd, b = X ++ pb ∧ qs.flatMap putP = X ++ tailL pd ∧ (pb.length : Int) = pd ∧ (0 < pd → pb.getD (pb.length - 1) 0 = pd) ∧ (∀ q, qs.getLast? = some q → q.pd = pd)
  | 0, f, b, qs, hK, _, _ => absurd hK (by omega)
  | K + 1, f, b, qs, hK, hb, h => by
    unfold splitL at h
    split at h
    · rename_i h0
      simp only [Prod.mk.injEq, and_true] at h
      subst h
      refine ⟨rfl, fun hf => by (rw [h0.2] at hf; cases hf), [], [], 0, h0.1, rfl, rfl, fun h => absurd h (by decide), fun q hq => by cases hq⟩
    · rename_i hne
      split at h
      · rename_i h1
        simp only [Prod.mk.injEq] at h
        exact absurd h.2 h1
      · rename_i h1
        split at h
        · rename_i h2
          simp only [Prod.mk.injEq] at h
          exact absurd h.2 h2
        · rename_i h2
          simp only [Prod.mk.injEq, and_true] at h
          obtain ⟨⟨e, q, r⟩, ht⟩ : ∃ z, takeP b f = z := ⟨_, rfl⟩
          rw [ht] at h1 h2 h
          dsimp only at h1 h2 h
          have he : e = 0 := by simpa using h1
          subst he
          have hlen := takeP_len (b := b) (f := f) (by rw [ht])
          rw [ht] at hlen
          dsimp only at hlen
          have hbr := (takeP_by (b := b) (f := f) hb).2
          rw [ht] at hbr
          obtain ⟨i1, i2, i3, i4, X0, pb0, i5, i6, i7, i8⟩ := takeP_inv ht hb
          obtain ⟨⟨qs', e'⟩, hs⟩ : ∃ z, splitL K false r = z := ⟨_, rfl⟩
          rw [hs] at h2 h
          dsimp only at h2 h
          have he' : e' = 0 := by simpa using h2
          subst he'
          subst h
          obtain ⟨j1, _, X', pb', pd', j3, j4, j5, j6, j7⟩ := split_inv K false r qs' (by omega) hbr hs
          have hpd := i1.pd.1
          by_cases hp : 0 < q.pd
          · have hr := i4 hp
            subst hr
            have hq' : qs' = [] := by
              obtain ⟨K', rfl⟩ : ∃ K', K = K' + 1 := ⟨K - 1, by omega⟩
              have : splitL (K' + 1) false [] = ([], 0) := rfl
              rw [this] at hs
              simp only [Prod.mk.injEq, and_true] at hs
              exact hs.symm
            subst hq'
            refine ⟨?_, fun hf => ⟨by simp, i3 hf⟩, X0, pb0, q.pd, by rw [i5, List.append_nil], by rw [List.flatMap_singleton]; exact i6, i7, i8, fun z hz => ?_⟩
            · show (decide q.Right && (decide (q.pd ≤ 0) || true) && okJ []) = true
              rw [decide_eq_true i2, Bool.or_true]; rfl
            · simp only [List.getLast?_singleton, Option.some.injEq] at hz
              rw [hz]
          · have hp0 : q.pd = 0 := by omega
            rw [tailL_zero hp, List.append_nil] at i6
            have hpb : pb0 = [] := List.length_eq_zero_iff.1 (by omega)
            subst hpb
            refine ⟨?_, fun hf => ⟨by simp, i3 hf⟩, X0 ++ X', pb', pd', by rw [i5, j3, List.nil_append, List.append_assoc], by rw [List.flatMap_cons, i6, j4, List.append_assoc], j5, j6, fun z hz => ?_⟩
            · show (decide q.Right && (decide (q.pd ≤ 0) || qs'.isEmpty) && okJ qs') = true
              rw [decide_eq_true i2, decide_eq_true (show q.pd ≤ 0 by omega), j1]; rfl
            · cases qs' with
              | nil =>
                simp only [List.getLast?_singleton, Option.some.injEq] at hz
                rw [← hz, hp0]
                have hl := congrArg List.length j4
                simp only [List.flatMap_nil, List.length_nil, List.length_append] at hl
                have hpd'0 : 0 ≤ pd' := by omega
                have := tailL_len pd' hpd'0
                omega
              | cons a t =>
                rw [List.getLast?_cons_cons] at hz
                exact j7 z hz
theorem back_at {X pb : List Int} {pd : Int} (hp : (pb.length : Int) = pd) (hl : 0 < pd → pb.getD (pb.length - 1) 0 = pd) (i : Nat) (hi : i < X.length + pb.length) :
    (X.length ≤ i ∧ i < X.length + pb.length - 1 → (X ++ tailL pd).getD i 0 = 0) ∧ (¬ (X.length ≤ i ∧ i < X.length + pb.length - 1) → (X ++ tailL pd).getD i 0 = (X ++ pb).getD i 0) := by
  by_cases h : i < X.length
  · refine ⟨fun h' => by omega, fun _ => ?_⟩
    rw [List.getD_eq_getElem?_getD, List.getD_eq_getElem?_getD, List.getElem?_append_left h, List.getElem?_append_left h]
  · have h0 : 0 < pd := by omega
    have ea : ∀ Y : List Int, (X ++ Y).getD i 0 = Y.getD (i - X.length) 0 := fun Y => by
      rw [List.getD_eq_getElem?_getD, List.getD_eq_getElem?_getD, List.getElem?_append_right (by omega)]
    rw [tailL_pos h0, ea, ea, List.getD_eq_getElem?_getD]
    refine ⟨fun h' => ?_, fun h' => ?_⟩
    · rw [List.getElem?_append_left (by rw [List.length_replicate]; omega), List.getElem?_replicate, if_pos (by omega)]; rfl
    · have hi' : i - X.length = pb.length - 1 := by omega
      rw [List.getElem?_append_right (by rw [List.length_replicate]; omega), hi', List.length_replicate, show pb.length - 1 - (pd - 1).toNat = 0 from by omega, hl h0]
      rfl
end Go.Proofs.Ytohlaabclifbfaa.X
