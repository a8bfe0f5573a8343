/-
  What is parsed is right, and written as it was, but for the padding: plain laws, no program.
-/
import Derived.Test.YtpcmnbagalhjiaaB7
namespace Go.Proofs.Ytpcmnbagalhjiaa.X
open Go Go.RowKit
set_option linter.unusedVariables false
set_option linter.unusedSimpArgs false
theorem parseP_inv {f pd : Int} {r pl : List Int} (h : parseP f r = some (pl, pd)) (hb : ∀ x, x ∈ r → By x) : ∃ pb, r = pl ++ pb ∧ (pb.length : Int) = pd ∧ By pd ∧ (0 < pd ↔ f / 32 % 2 = 1) ∧ (0 < pd → pb.getD (pb.length - 1) 0 = pd) := by
  unfold parseP at h
  split at h
  · rename_i hf
    split at h
    · cases h
    · rename_i hn
      simp only [Option.some.injEq, Prod.mk.injEq] at h
      obtain ⟨rfl, rfl⟩ := h
      obtain ⟨z, hz⟩ : ∃ z, z = r.getD (r.length - 1) 0 := ⟨_, rfl⟩
      rw [← hz] at hn ⊢
      have hl : 0 < r.length := by omega
      have hzb : By z := by rw [hz, getD_get (by omega)]; exact hb _ (List.getElem_mem _)
      unfold By at hzb
      obtain ⟨k, hk⟩ : ∃ k : Nat, z = k := ⟨z.toNat, by omega⟩
      have hkt : ((r.length : Int) - z).toNat = r.length - k := by omega
      rw [hkt]
      refine ⟨r.drop (r.length - k), (List.take_append_drop _ _).symm, by rw [List.length_drop]; omega, hzb, ⟨fun _ => hf, fun _ => by omega⟩, fun _ => ?_⟩
      rw [List.length_drop, List.getD_eq_getElem?_getD, List.getElem?_drop, show r.length - k + (r.length - (r.length - k) - 1) = r.length - 1 from by omega, ← List.getD_eq_getElem?_getD]
      exact hz.symm
  · rename_i hf
    simp only [Option.some.injEq, Prod.mk.injEq] at h
    obtain ⟨rfl, rfl⟩ := h
    exact ⟨[], (List.append_nil _).symm, rfl, by unfold By; omega, ⟨fun h => by omega, fun h => absurd h hf⟩, fun h => by omega⟩
theorem parseE_inv {f pf : Int} {hx : Bool} {xs ex r : List Int} (h : parseE f xs = some (hx, pf, ex, r)) (hb : ∀ x, x ∈ xs → By x) : xs = (if hx then be2 pf ++ be2 ((ex.length : Int) / 4) ++ ex else []) ++ r ∧ (hx = true ↔ f / 16 % 2 = 1) ∧ U2 pf ∧ ex.length % 4 = 0 ∧ ex.length / 4 ≤ 65535 ∧ (hx = true ∨ pf = 0 ∧ ex = []) ∧ (∀ x, x ∈ ex → By x) ∧ ∀ x, x ∈ r → By x := by
  unfold parseE at h
  split at h
  · rename_i hf
    split at h
    · cases h
    · rename_i h4
      split at h
      · cases h
      · rename_i h5
        simp only [Option.some.injEq, Prod.mk.injEq] at h
        obtain ⟨rfl, rfl, rfl, rfl⟩ := h
        have hv := vl_u2 ((xs.drop 2).take 2) (By.take (By.drop hb 2) 2) (by simp; omega)
        have hp := vl_u2 (xs.take 2) (By.take hb 2) (by simp; omega)
        obtain ⟨k, hk⟩ : ∃ k : Nat, vl ((xs.drop 2).take 2) = k := ⟨(vl ((xs.drop 2).take 2)).toNat, by omega⟩
        rw [hk] at h5 hv ⊢
        have hkt : (4 * (k : Int)).toNat = 4 * k := by omega
        rw [hkt]
        have hel : ((xs.drop 4).take (4 * k)).length = 4 * k := by rw [List.length_take]; omega
        refine ⟨?_, ⟨fun _ => hf, fun _ => rfl⟩, hp, by rw [hel]; omega, by rw [hel]; omega, .inl rfl, By.take (By.drop hb 4) _, By.drop (By.drop hb 4) _⟩
        rw [if_pos rfl, hel, show (((4 * k : Nat) : Int) / 4) = k from by omega, ← hk]
        rcases xs with _ | ⟨a, _ | ⟨b, _ | ⟨c, _ | ⟨d, xs⟩⟩⟩⟩
        · simp at h4
        · simp at h4
        · simp at h4
        · simp at h4
        · have ha := hb a (by simp); have hb' := hb b (by simp); have hc := hb c (by simp); have hd := hb d (by simp)
          show a :: b :: c :: d :: xs = be2 (vl [a, b]) ++ be2 (vl [c, d]) ++ xs.take (4 * k) ++ xs.drop (4 * k)
          rw [be2_vl a b ha hb', be2_vl c d hc hd, List.append_assoc, List.take_append_drop]
          rfl
  · rename_i hf
    simp only [Option.some.injEq, Prod.mk.injEq] at h
    obtain ⟨rfl, rfl, rfl, rfl⟩ := h
    exact ⟨rfl, ⟨fun h => (by cases h), fun h => absurd h hf⟩, ⟨by omega, by omega⟩, rfl, Nat.zero_le _, .inr ⟨rfl, rfl⟩, (fun x h => by cases h), hb⟩
theorem parse_inv (b : List Int) (q : Pk) (hb : ∀ x, x ∈ b → By x) (h : parseL b = (0, q)) : q.Rg ∧ q.Right ∧ ∃ X pb, b = X ++ pb ∧ putL q = X ++ tailL q.pd ∧ (pb.length : Int) = q.pd ∧ (0 < q.pd → pb.getD (pb.length - 1) 0 = q.pd) := by
  unfold parseL at h
  split at h
  · cases h
  · rename_i h12
    split at h
    · cases h
    · rename_i h64
      split at h
      · cases h
      · rename_i hmn
        split at h
        · cases h
        · rename_i hx pf ex r hE
          split at h
          · cases h
          · rename_i pl pd hP
            simp only [Prod.mk.injEq, true_and] at h
            subst h
            iterate 12
              (rcases b with _ | ⟨_, b⟩
               · exact absurd (by simp) h12)
            rename_i b0 b1 b2 b3 b4 b5 b6 b7 b8 b9 b10 b11
            have g0 := hb b0 (by simp); have g1 := hb b1 (by simp); have g2 := hb b2 (by simp); have g3 := hb b3 (by simp)
            have g4 := hb b4 (by simp); have g5 := hb b5 (by simp); have g6 := hb b6 (by simp); have g7 := hb b7 (by simp)
            have g8 := hb b8 (by simp); have g9 := hb b9 (by simp); have g10 := hb b10 (by simp); have g11 := hb b11 (by simp)
            have hbr : ∀ x, x ∈ b → By x := fun x hx => hb x (by simp [hx])
            replace hmn : ¬ b.length < 4 * (b0 % 16).toNat := hmn
            replace h64 : ¬ b0 / 64 ≠ 2 := h64
            replace hE : parseE b0 (b.drop (4 * (b0 % 16).toNat)) = some (hx, pf, ex, r) := hE
            replace hP : parseP b0 r = some (pl, pd) := hP
            obtain ⟨hc1, hc2⟩ := chunks_inv (b0 % 16).toNat b (by omega) hbr
            obtain ⟨e1, e2, e3, e4, e5, e6, e7, e8⟩ := parseE_inv hE (By.drop hbr _)
            obtain ⟨pb, f1, f2, f3, f4, f5⟩ := parseP_inv hP e8
            have hcl := chunks_len (b0 % 16).toNat b
            obtain ⟨cs, hcs⟩ : ∃ cs, cs = chunks (b0 % 16).toNat b := ⟨_, rfl⟩
            rw [← hcs] at hc1 hc2 hcl
            show Pk.Rg ⟨decide (128 ≤ b1), b1 % 128, vl [b2, b3], vl [b4, b5, b6, b7], vl [b8, b9, b10, b11], chunks (b0 % 16).toNat b, hx, pf, ex, pl, pd⟩ ∧ Pk.Right ⟨decide (128 ≤ b1), b1 % 128, vl [b2, b3], vl [b4, b5, b6, b7], vl [b8, b9, b10, b11], chunks (b0 % 16).toNat b, hx, pf, ex, pl, pd⟩ ∧ ∃ X pb, b0 :: b1 :: b2 :: b3 :: b4 :: b5 :: b6 :: b7 :: b8 :: b9 :: b10 :: b11 :: b = X ++ pb ∧ putL ⟨decide (128 ≤ b1), b1 % 128, vl [b2, b3], vl [b4, b5, b6, b7], vl [b8, b9, b10, b11], chunks (b0 % 16).toNat b, hx, pf, ex, pl, pd⟩ = X ++ tailL pd ∧ (pb.length : Int) = pd ∧ (0 < pd → pb.getD (pb.length - 1) 0 = pd)
            rw [← hcs]
            have hF : fst8 ⟨decide (128 ≤ b1), b1 % 128, vl [b2, b3], vl [b4, b5, b6, b7], vl [b8, b9, b10, b11], cs, hx, pf, ex, pl, pd⟩ = b0 := by
              show 128 + (cs.length : Int) + (if 0 < pd then 32 else 0) + (if hx = true then 16 else 0) = b0
              unfold By at g0
              rw [hcl]
              by_cases k1 : 0 < pd
              · have k1' := f4.1 k1
                rw [if_pos k1]
                by_cases k2 : hx = true
                · have k2' := e2.1 k2
                  rw [if_pos k2]; omega
                · have k2' : ¬ b0 / 16 % 2 = 1 := fun h => k2 (e2.2 h)
                  rw [if_neg k2]; omega
              · have k1' : ¬ b0 / 32 % 2 = 1 := fun h => k1 (f4.2 h)
                rw [if_neg k1]
                by_cases k2 : hx = true
                · have k2' := e2.1 k2
                  rw [if_pos k2]; omega
                · have k2' : ¬ b0 / 16 % 2 = 1 := fun h => k2 (e2.2 h)
                  rw [if_neg k2]; omega
            have hS : snd8 ⟨decide (128 ≤ b1), b1 % 128, vl [b2, b3], vl [b4, b5, b6, b7], vl [b8, b9, b10, b11], cs, hx, pf, ex, pl, pd⟩ = b1 := by
              show b1 % 128 + (if decide (128 ≤ b1) = true then 128 else 0) = b1
              unfold By at g1
              by_cases k : 128 ≤ b1
              · rw [if_pos (decide_eq_true k)]; omega
              · rw [if_neg (by simp; omega)]; omega
            refine ⟨⟨?_, ?_, ?_, ?_, hc2, e3, e7, fun x hx => e8 x (by rw [f1]; exact List.mem_append_left _ hx), f3⟩, ⟨?_, ?_, e4, e5, e6⟩, [b0, b1] ++ be2 (vl [b2, b3]) ++ be4 (vl [b4, b5, b6, b7]) ++ be4 (vl [b8, b9, b10, b11]) ++ (cs.flatMap be4 ++ ((if hx then be2 pf ++ be2 ((ex.length : Int) / 4) ++ ex else []) ++ pl)), pb, ?_, ?_, f2, f5⟩
            · show By (b1 % 128); unfold By at *; omega
            · show U2 (vl [b2, b3]); unfold By U2 at *; simp only [vl, List.foldl]; omega
            · show U4 (vl [b4, b5, b6, b7]); unfold By U4 at *; simp only [vl, List.foldl]; omega
            · show U4 (vl [b8, b9, b10, b11]); unfold By U4 at *; simp only [vl, List.foldl]; omega
            · show b1 % 128 < 128; omega
            · show cs.length ≤ 15; rw [hcl]; omega
            · rw [be2_vl b2 b3 g2 g3, be4_vl b4 b5 b6 b7 g4 g5 g6 g7, be4_vl b8 b9 b10 b11 g8 g9 g10 g11]
              conv => lhs; rw [hc1, e1, f1]
              simp only [List.append_assoc, List.cons_append, List.nil_append]
            · show [fst8 _, snd8 _] ++ be2 (vl [b2, b3]) ++ be4 (vl [b4, b5, b6, b7]) ++ be4 (vl [b8, b9, b10, b11]) ++ (cs.flatMap be4 ++ ((if hx then be2 pf ++ be2 ((ex.length : Int) / 4) ++ ex else []) ++ (pl ++ tailL pd))) = _
              rw [hF, hS]
              simp only [List.append_assoc, List.cons_append, List.nil_append]
end Go.Proofs.Ytpcmnbagalhjiaa.X
