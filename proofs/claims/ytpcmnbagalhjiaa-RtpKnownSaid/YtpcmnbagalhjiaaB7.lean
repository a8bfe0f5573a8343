/-
  What is written is parsed as it was; what is parsed is written as it was, but for the padding: plain laws, no program.
-/
import Derived.Test.YtpcmnbagalhjiaaB5
namespace Go.Proofs.Ytpcmnbagalhjiaa.X
open Go Go.RowKit
set_option linter.unusedVariables false
set_option linter.unusedSimpArgs false
theorem tailL_pos {pd : Int} (h : 0 < pd) : tailL pd = List.replicate (pd - 1).toNat 0 ++ [pd] := by unfold tailL; rw [if_pos h]
theorem tailL_zero {pd : Int} (h : ¬ 0 < pd) : tailL pd = [] := by unfold tailL; rw [if_neg h]
theorem parseP_put {f pd : Int} {pl : List Int} (h0 : 0 ≤ pd) (hf : f / 32 % 2 = if 0 < pd then 1 else 0) : parseP f (pl ++ tailL pd) = some (pl, pd) := by
  unfold parseP
  by_cases hp : 0 < pd
  · rw [if_pos hp] at hf
    have hl : (pl ++ tailL pd).length = pl.length + pd.toNat := by have := tailL_len pd h0; rw [List.length_append]; omega
    have hlast : (pl ++ tailL pd).getD ((pl ++ tailL pd).length - 1) 0 = pd := by
      rw [tailL_pos hp, ← List.append_assoc, List.length_append, List.length_singleton, Nat.add_sub_cancel]
      simp [List.getD_eq_getElem?_getD]
    rw [if_pos hf, if_neg (by rw [hlast, hl]; omega), hlast, hl, show (((pl.length + pd.toNat : Nat) : Int) - pd).toNat = pl.length from by omega, List.take_left]
  · rw [if_neg hp] at hf
    rw [if_neg (by omega), tailL_zero hp, List.append_nil, show pd = 0 from by omega]
theorem parseE_put {f pf : Int} {hx : Bool} {ex Y : List Int} (hf : f / 16 % 2 = if hx then 1 else 0) (h4 : ex.length % 4 = 0) (h5 : ex.length / 4 ≤ 65535) (hp : 0 ≤ pf ∧ pf ≤ 65535) (hr : hx = true ∨ pf = 0 ∧ ex = []) :
    parseE f ((if hx then be2 pf ++ be2 ((ex.length : Int) / 4) ++ ex else []) ++ Y) = some (hx, pf, ex, Y) := by
  unfold parseE
  cases hx
  · rw [if_neg (by decide)] at hf
    rcases hr with hr | ⟨rfl, rfl⟩
    · cases hr
    · rw [if_neg (by omega)]; rfl
  · rw [if_pos rfl] at hf
    rw [if_pos hf]
    have e0 : (if true = true then be2 pf ++ be2 ((ex.length : Int) / 4) ++ ex else []) ++ Y = be2 pf ++ (be2 ((ex.length : Int) / 4) ++ (ex ++ Y)) := by
      rw [if_pos rfl, List.append_assoc, List.append_assoc]
    rw [e0]
    have e1 : (be2 pf ++ (be2 ((ex.length : Int) / 4) ++ (ex ++ Y))).take 2 = be2 pf := rfl
    have e2 : ((be2 pf ++ (be2 ((ex.length : Int) / 4) ++ (ex ++ Y))).drop 2).take 2 = be2 ((ex.length : Int) / 4) := rfl
    have e3 : (be2 pf ++ (be2 ((ex.length : Int) / 4) ++ (ex ++ Y))).drop 4 = ex ++ Y := rfl
    have e4 : vl (be2 ((ex.length : Int) / 4)) = (ex.length : Int) / 4 := vl_be2 _ (by omega) (by omega)
    have e5 : (4 * ((ex.length : Int) / 4)) = (ex.length : Int) := by omega
    rw [e1, e2, e3, e4, e5, vl_be2 pf hp.1 hp.2, if_neg (by simp [be2]), if_neg (by rw [List.length_append]; omega), Int.toNat_natCast, List.take_left, List.drop_left]
theorem parse_put (q : Pk) (hg : q.Rg) (hR : q.Right) : parseL (putL q) = (0, q) := by
  obtain ⟨mr, ty, sq, tm, ss, cs, hx, pf, ex, pl, pd⟩ := q
  have g1 := hg.ty; have g2 := hg.sq; have g3 := hg.tm; have g4 := hg.ss; have g5 := hg.cs; have g6 := hg.pf; have g7 := hg.pd
  obtain ⟨e1, e2, e3, e4, e5⟩ := hR
  dsimp only [By, U2, U4] at g1 g2 g3 g4 g5 g6 g7 e1 e2 e3 e4 e5
  obtain ⟨F, hF⟩ : ∃ F, F = fst8 ⟨mr, ty, sq, tm, ss, cs, hx, pf, ex, pl, pd⟩ := ⟨_, rfl⟩
  obtain ⟨S, hS⟩ : ∃ S, S = snd8 ⟨mr, ty, sq, tm, ss, cs, hx, pf, ex, pl, pd⟩ := ⟨_, rfl⟩
  have hb : putL ⟨mr, ty, sq, tm, ss, cs, hx, pf, ex, pl, pd⟩ = F :: S :: (be2 sq ++ (be4 tm ++ (be4 ss ++ (cs.flatMap be4 ++ ((if hx then be2 pf ++ be2 ((ex.length : Int) / 4) ++ ex else []) ++ (pl ++ tailL pd)))))) := by
    rw [hF, hS]; rfl
  rw [hb]
  generalize hRR : (if hx then be2 pf ++ be2 ((ex.length : Int) / 4) ++ ex else []) ++ (pl ++ tailL pd) = X
  obtain ⟨h1, h2⟩ := chunks_app cs X g5
  have hFv : F / 64 = 2 ∧ F % 16 = cs.length ∧ (F / 16 % 2 = if hx then 1 else 0) ∧ (F / 32 % 2 = if 0 < pd then 1 else 0) := by
    have : F = 128 + (cs.length : Int) + (if 0 < pd then 32 else 0) + if hx then 16 else 0 := hF
    cases hx
    · rw [if_neg (show ¬ (false = true) from by decide)] at this
      rw [if_neg (show ¬ (false = true) from by decide)]
      by_cases hp : 0 < pd
      · rw [if_pos hp] at this ⊢; omega
      · rw [if_neg hp] at this ⊢; omega
    · rw [if_pos (show true = true from rfl)] at this
      rw [if_pos (show true = true from rfl)]
      by_cases hp : 0 < pd
      · rw [if_pos hp] at this ⊢; omega
      · rw [if_neg hp] at this ⊢; omega
  have hSv : decide (128 ≤ S) = mr ∧ S % 128 = ty := by
    have : S = ty + if mr then 128 else 0 := hS
    cases mr
    · rw [if_neg (by decide)] at this
      exact ⟨decide_eq_false (by omega), by omega⟩
    · rw [if_pos rfl] at this
      exact ⟨decide_eq_true (by omega), by omega⟩
  have d12 : (F :: S :: (be2 sq ++ (be4 tm ++ (be4 ss ++ (cs.flatMap be4 ++ X))))).drop 12 = cs.flatMap be4 ++ X := rfl
  have d2 : ((F :: S :: (be2 sq ++ (be4 tm ++ (be4 ss ++ (cs.flatMap be4 ++ X))))).drop 2).take 2 = be2 sq := rfl
  have d4 : ((F :: S :: (be2 sq ++ (be4 tm ++ (be4 ss ++ (cs.flatMap be4 ++ X))))).drop 4).take 4 = be4 tm := rfl
  have d8 : ((F :: S :: (be2 sq ++ (be4 tm ++ (be4 ss ++ (cs.flatMap be4 ++ X))))).drop 8).take 4 = be4 ss := rfl
  have z0 : (F :: S :: (be2 sq ++ (be4 tm ++ (be4 ss ++ (cs.flatMap be4 ++ X))))).getD 0 0 = F := rfl
  have z1 : (F :: S :: (be2 sq ++ (be4 tm ++ (be4 ss ++ (cs.flatMap be4 ++ X))))).getD 1 0 = S := rfl
  unfold parseL
  rw [z0, z1, d12, d2, d4, d8, hFv.2.1, Int.toNat_natCast, h1, h2, if_neg (by simp [be2, be4]), if_neg (by omega), if_neg (by rw [List.length_append, flat4_len]; omega), ← hRR, parseE_put hFv.2.2.1 e3 e4 g6 e5]
  dsimp only
  rw [parseP_put g7.1 hFv.2.2.2]
  dsimp only
  rw [hSv.1, hSv.2, vl_be2 sq g2.1 g2.2, vl_be4 tm g3.1 g3.2, vl_be4 ss g4.1 g4.2]
end Go.Proofs.Ytpcmnbagalhjiaa.X
