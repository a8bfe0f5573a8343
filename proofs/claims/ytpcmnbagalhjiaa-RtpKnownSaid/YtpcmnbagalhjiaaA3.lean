/-
  An extension is read: a walk of my own.
-/
import Derived.Test.YtpcmnbagalhjiaaA2
namespace Go.Proofs.Ytpcmnbagalhjiaa.X
open Go Go.RowKit
set_option linter.unusedVariables false
set_option linter.unusedSimpArgs false
theorem Rs.ints_take {W : World} {L : List Blk} {p : Option Addr} {k : IntKind} {xs : List Int} (h : Rs W L p (ints k xs)) (i : Nat) : Rs W L p (ints k (xs.take i)) := by rw [X.ints_take]; exact h.take i
theorem By.take {xs : List Int} (h : ∀ x, x ∈ xs → By x) (i : Nat) : ∀ x, x ∈ xs.take i → By x := fun x hx => h x (List.mem_of_mem_take hx)
theorem By.drop {xs : List Int} (h : ∀ x, x ∈ xs → By x) (i : Nat) : ∀ x, x ∈ xs.drop i → By x := fun x hx => h x (List.mem_of_mem_drop hx)
theorem vl_u2 (l : List Int) (hb : ∀ x, x ∈ l → By x) (h : l.length ≤ 2) : 0 ≤ vl l ∧ vl l ≤ 65535 := by
  have h1 := vl_bd l hb l.length (Nat.le_refl _)
  rw [List.take_length] at h1
  have : (256 : Int) ^ l.length ≤ 65536 := by
    have : l.length = 0 ∨ l.length = 1 ∨ l.length = 2 := by omega
    rcases this with h | h | h <;> rw [h] <;> decide
  omega
set_option maxHeartbeats 2000000 in
theorem xf_ext {W : World} {L : List Blk} (r7 : Nat) (c0 c1 c2 c3 c4 c5 c6 c7 c8 c9 c10 : Value) (p : Option Addr) (m c : Nat) (xs : List Int) (hx : xs.length = m) (hr : Rs W L p (ints .u8 xs)) (hb : ∀ x, x ∈ xs → By x) (hc : m ≤ c) (hm : m ≤ 1000000000) :
    XF Try.prog W 30 #[.pointer (some ⟨r7, 0, none⟩), .slice p m c] ((r7, .cells #[c0, c1, c2, c3, c4, c5, c6, c7, c8, c9, c10] 33 (0, 0)) :: L) (fun v L' =>
      match parseE 16 xs with
      | none => v = .tuple #[.slice none 0 0, .bool false] ∧ ∃ vs, L' = (r7, .cells vs 33 (0, 0)) :: L
      | some (hx, pf, ex, r) => ∃ p' c' q k l, v = .tuple #[.slice p' r.length c', .bool true] ∧ (∀ L0, Rs W L0 p (ints .u8 xs) → Rs W L0 p' (ints .u8 r)) ∧ r.length ≤ c' ∧ SlO 1 5 (.slice q ex.length k) ex.length (ints .u8 ex) l ∧ L' = (r7, .cells #[c0, c1, c2, c3, c4, c5, .bool hx, .int .u16 pf, .slice q ex.length k, c9, c10] 33 (0, 0)) :: (l ++ L)) := by
  refine xf_enter (args := [_, _]) Try.func30 rfl Try.ntmps30 rfl ?_
  by_cases h4 : m < 4
  · rw [show parseE 16 xs = none from by unfold parseE; rw [if_pos (by decide), if_pos (by omega)]]
    focus
      refine xc_seq ?_
      refine xc_region ?_
      refine xo_rd (rd_assign rfl) rfl ?_
      refine xo_rd (rd_assign rfl) rfl ?_
      refine xo_nil ?_
      refine xq_seq ?_
      refine xc_seq ?_
      refine xc_region ?_
      refine xo_rd (rd_move rfl) rfl ?_
      refine xo_ef rfl (ef_call rfl (XF.mono (xf_cutN p m c 4 4 rfl hc (by omega) h4) ?_))
      rintro v L' ⟨rfl, rfl⟩
      refine xo_rd (rd_move rfl) rfl ?_
      refine xo_rd (rd_extract rfl rfl) rfl ?_
      refine xo_rd (rd_extract rfl rfl) rfl ?_
      refine xo_rd (rd_extract rfl rfl) rfl ?_
      refine xo_rd (rd_assign rfl) rfl ?_
      refine xo_rd (rd_assign rfl) rfl ?_
      refine xo_rd (rd_assign rfl) rfl ?_
      refine xo_nil ?_
      refine xq_seq ?_
      refine xc_seq ?_
      refine xc_seq ?_
      refine xc_region ?_
      refine xo_rd (rd_move rfl) rfl ?_
      refine xo_rd (rd_not rfl) rfl ?_
      refine xo_nil ?_
      refine xq_seq ?_
      refine xc_condt rfl ?_
      refine xc_seq ?_
      refine xc_region ?_
      refine xo_rd (rd_assign rfl) rfl ?_
      refine xo_rd (rd_assign rfl) rfl ?_
      refine xo_nil ?_
      refine xq_seq ?_
      refine xc_ret ?_
      refine xq_then_ret ?_
    exact xq_ret2 (.inl rfl) Try.results30 rfl rfl ⟨rfl, _, rfl⟩
  · have hb2 := vl_u2 (xs.take 2) (By.take hb 2) (by simp; omega)
    have hb3 := vl_u2 ((xs.drop 2).take 2) (By.take (By.drop hb 2) 2) (by simp; omega)
    obtain ⟨n, hn⟩ := Int.eq_ofNat_of_zero_le hb3.1
    by_cases h5 : m - 4 < 4 * n
    · rw [show parseE 16 xs = none from by unfold parseE; rw [if_pos (by decide), if_neg (by omega), if_pos (by rw [List.length_drop]; omega)]]
      focus
        refine xc_seq ?_
        refine xc_region ?_
        refine xo_rd (rd_assign rfl) rfl ?_
        refine xo_rd (rd_assign rfl) rfl ?_
        refine xo_nil ?_
        refine xq_seq ?_
        refine xc_seq ?_
        refine xc_region ?_
        refine xo_rd (rd_move rfl) rfl ?_
        refine xo_ef rfl (ef_call rfl (XF.mono (xf_cutY p m c xs 4 4 rfl hx hc (by omega) (by omega)) ?_))
        rintro v L' ⟨p1, c1', rfl, hr1, hc1, rfl⟩
        refine xo_rd (rd_move rfl) rfl ?_
        refine xo_rd (rd_extract rfl rfl) rfl ?_
        refine xo_rd (rd_extract rfl rfl) rfl ?_
        refine xo_rd (rd_extract rfl rfl) rfl ?_
        refine xo_rd (rd_assign rfl) rfl ?_
        refine xo_rd (rd_assign rfl) rfl ?_
        refine xo_rd (rd_assign rfl) rfl ?_
        refine xo_nil ?_
        refine xq_seq ?_
        refine xc_seq ?_
        refine xc_seq ?_
        refine xc_region ?_
        refine xo_rd (rd_move rfl) rfl ?_
        refine xo_rd (rd_not rfl) rfl ?_
        refine xo_nil ?_
        refine xq_seq ?_
        refine xc_condf rfl ?_
        refine xc_skip ?_
        refine xq_seq ?_
        refine xc_seq ?_
        refine xc_region ?_
        refine xo_rd (rd_move rfl) rfl ?_
        refine xo_rd (rd_move rfl) rfl ?_
        refine xo_rd (rd_move rfl) rfl ?_
        refine xo_rd (rd_slHi rfl rfl (by omega) (by omega)) rfl ?_
        refine xo_ef rfl (ef_call rfl (XF.mono (xf_number p 2 c (xs.take 2) (by simp; omega) (hr.ints_take 2).skip (By.take hb 2) (by omega)) ?_))
        rintro v L' ⟨rfl, rfl⟩
        refine xo_rd (rd_convn (k := .u16) rfl (by omega) (by omega)) rfl ?_
        refine xo_rd (rd_nilCheck rfl) rfl ?_
        refine xo_rd (rd_fieldAddr rfl) rfl ?_
        refine xo_ef rfl (ef_store1 [] _ rfl rfl (by first | rfl | assumption) rfl rfl rfl ?_)
        refine xo_rd (rd_nilCheck rfl) rfl ?_
        refine xo_rd (rd_fieldAddr rfl) rfl ?_
        refine xo_ef rfl (ef_store1 [] _ rfl rfl (by first | rfl | assumption) rfl rfl rfl ?_)
        refine xo_nil ?_
        refine xq_seq ?_
        refine xc_seq ?_
        refine xc_region ?_
        refine xo_rd (rd_move rfl) rfl ?_
        refine xo_rd (rd_move rfl) rfl ?_
        refine xo_rd (rd_slLo rfl rfl (by omega) (by omega)) rfl ?_
        refine xo_ef rfl (ef_call rfl (XF.mono (xf_number (slp p c 2 1) 2 (c - 2) ((xs.drop 2).take 2) (by simp; omega) (by rw [X.ints_take, ints_drop]; exact ((hr.skip.slp c 2 (by rw [ints_len]; omega)).take 2)) (By.take (By.drop hb 2) 2) (by omega)) ?_))
        rintro v L' ⟨rfl, rfl⟩
        refine xo_rd (rd_convn rfl (by omega) (by omega)) rfl ?_
        refine xo_rd (rd_muln rfl rfl (by omega) (by omega)) rfl ?_
        refine xo_ef rfl (ef_call rfl (XF.mono (xf_cutN p1 (m - 4) c1' (4 * vl ((xs.drop 2).take 2)) (4 * n) (by omega) (by omega) (by omega) (by omega)) ?_))
        rintro v L' ⟨rfl, rfl⟩
        refine xo_rd (rd_move rfl) rfl ?_
        refine xo_rd (rd_extract rfl rfl) rfl ?_
        refine xo_rd (rd_extract rfl rfl) rfl ?_
        refine xo_rd (rd_extract rfl rfl) rfl ?_
        refine xo_rd (rd_assign rfl) rfl ?_
        refine xo_rd (rd_assign rfl) rfl ?_
        refine xo_rd (rd_assign rfl) rfl ?_
        refine xo_nil ?_
        refine xq_seq ?_
        refine xc_seq ?_
        refine xc_region ?_
        refine xo_rd (rd_move rfl) rfl ?_
        refine xo_rd (rd_move rfl) rfl ?_
        refine xo_ef rfl (ef_call rfl (XF.mono (xf_clone none 0 0 [] rfl Rs.nil rfl (by omega)) ?_))
        rintro v L' ⟨q, k, l, rfl, hO, _, rfl⟩
        refine xo_seg [_] l L ?_
        refine xo_rd (rd_nilCheck rfl) rfl ?_
        refine xo_rd (rd_fieldAddr rfl) rfl ?_
        refine xo_ef rfl (ef_store1 [] _ rfl rfl (by first | rfl | assumption) rfl rfl rfl ?_)
        refine xo_nil ?_
        refine xq_seq ?_
        refine xc_seq ?_
        refine xc_region ?_
        refine xo_rd (rd_move rfl) rfl ?_
        refine xo_rd (rd_move rfl) rfl ?_
        refine xo_rd (rd_assign rfl) rfl ?_
        refine xo_rd (rd_assign rfl) rfl ?_
        refine xo_nil ?_
        refine xq_seq ?_
        refine xc_ret ?_
      exact xq_sub (L' := (r7, .cells _ 33 (0, 0)) :: L) ((List.sublist_append_right l L).cons_cons _) (xq_ret2 (.inl rfl) Try.results30 rfl rfl ⟨rfl, _, rfl⟩)
    · rw [show parseE 16 xs = some (true, vl (xs.take 2), (xs.drop 4).take (4 * n), (xs.drop 4).drop (4 * n)) from by unfold parseE; rw [if_pos (by decide), if_neg (by omega), if_neg (by rw [List.length_drop]; omega), show (4 * vl ((xs.drop 2).take 2)).toNat = 4 * n from by omega]]
      dsimp only
      focus
        refine xc_seq ?_
        refine xc_region ?_
        refine xo_rd (rd_assign rfl) rfl ?_
        refine xo_rd (rd_assign rfl) rfl ?_
        refine xo_nil ?_
        refine xq_seq ?_
        refine xc_seq ?_
        refine xc_region ?_
        refine xo_rd (rd_move rfl) rfl ?_
        refine xo_ef rfl (ef_call rfl (XF.mono (xf_cutY p m c xs 4 4 rfl hx hc (by omega) (by omega)) ?_))
        rintro v L' ⟨p1, c1', rfl, hr1, hc1, rfl⟩
        refine xo_rd (rd_move rfl) rfl ?_
        refine xo_rd (rd_extract rfl rfl) rfl ?_
        refine xo_rd (rd_extract rfl rfl) rfl ?_
        refine xo_rd (rd_extract rfl rfl) rfl ?_
        refine xo_rd (rd_assign rfl) rfl ?_
        refine xo_rd (rd_assign rfl) rfl ?_
        refine xo_rd (rd_assign rfl) rfl ?_
        refine xo_nil ?_
        refine xq_seq ?_
        refine xc_seq ?_
        refine xc_seq ?_
        refine xc_region ?_
        refine xo_rd (rd_move rfl) rfl ?_
        refine xo_rd (rd_not rfl) rfl ?_
        refine xo_nil ?_
        refine xq_seq ?_
        refine xc_condf rfl ?_
        refine xc_skip ?_
        refine xq_seq ?_
        refine xc_seq ?_
        refine xc_region ?_
        refine xo_rd (rd_move rfl) rfl ?_
        refine xo_rd (rd_move rfl) rfl ?_
        refine xo_rd (rd_move rfl) rfl ?_
        refine xo_rd (rd_slHi rfl rfl (by omega) (by omega)) rfl ?_
        refine xo_ef rfl (ef_call rfl (XF.mono (xf_number p 2 c (xs.take 2) (by simp; omega) (hr.ints_take 2).skip (By.take hb 2) (by omega)) ?_))
        rintro v L' ⟨rfl, rfl⟩
        refine xo_rd (rd_convn (k := .u16) rfl (by omega) (by omega)) rfl ?_
        refine xo_rd (rd_nilCheck rfl) rfl ?_
        refine xo_rd (rd_fieldAddr rfl) rfl ?_
        refine xo_ef rfl (ef_store1 [] _ rfl rfl (by first | rfl | assumption) rfl rfl rfl ?_)
        refine xo_rd (rd_nilCheck rfl) rfl ?_
        refine xo_rd (rd_fieldAddr rfl) rfl ?_
        refine xo_ef rfl (ef_store1 [] _ rfl rfl (by first | rfl | assumption) rfl rfl rfl ?_)
        refine xo_nil ?_
        refine xq_seq ?_
        refine xc_seq ?_
        refine xc_region ?_
        refine xo_rd (rd_move rfl) rfl ?_
        refine xo_rd (rd_move rfl) rfl ?_
        refine xo_rd (rd_slLo rfl rfl (by omega) (by omega)) rfl ?_
        refine xo_ef rfl (ef_call rfl (XF.mono (xf_number (slp p c 2 1) 2 (c - 2) ((xs.drop 2).take 2) (by simp; omega) (by rw [X.ints_take, ints_drop]; exact ((hr.skip.slp c 2 (by rw [ints_len]; omega)).take 2)) (By.take (By.drop hb 2) 2) (by omega)) ?_))
        rintro v L' ⟨rfl, rfl⟩
        refine xo_rd (rd_convn rfl (by omega) (by omega)) rfl ?_
        refine xo_rd (rd_muln rfl rfl (by omega) (by omega)) rfl ?_
        refine xo_ef rfl (ef_call rfl (XF.mono (xf_cutY p1 (m - 4) c1' (xs.drop 4) (4 * vl ((xs.drop 2).take 2)) (4 * n) (by omega) (by rw [List.length_drop]; omega) (by omega) (by omega) (by omega)) ?_))
        rintro v L' ⟨p2, c2', rfl, hr2, hc2, rfl⟩
        refine xo_rd (rd_move rfl) rfl ?_
        refine xo_rd (rd_extract rfl rfl) rfl ?_
        refine xo_rd (rd_extract rfl rfl) rfl ?_
        refine xo_rd (rd_extract rfl rfl) rfl ?_
        refine xo_rd (rd_assign rfl) rfl ?_
        refine xo_rd (rd_assign rfl) rfl ?_
        refine xo_rd (rd_assign rfl) rfl ?_
        refine xo_nil ?_
        refine xq_seq ?_
        refine xc_seq ?_
        refine xc_region ?_
        refine xo_rd (rd_move rfl) rfl ?_
        refine xo_rd (rd_move rfl) rfl ?_
        refine xo_ef rfl (ef_call rfl (XF.mono (xf_clone p1 (4 * n) c1' (ints .u8 ((xs.drop 4).take (4 * n))) (by rw [ints_len, List.length_take, List.length_drop]; omega) ((hr1 _ hr.skip).ints_take _) (ints_one _ _) (by omega)) ?_))
        rintro v L' ⟨q, k, l, rfl, hO, _, rfl⟩
        refine xo_seg [_] l L ?_
        refine xo_rd (rd_nilCheck rfl) rfl ?_
        refine xo_rd (rd_fieldAddr rfl) rfl ?_
        refine xo_ef rfl (ef_store1 [] _ rfl rfl (by first | rfl | assumption) rfl rfl rfl ?_)
        refine xo_nil ?_
        refine xq_seq ?_
        refine xc_seq ?_
        refine xc_region ?_
        refine xo_rd (rd_move rfl) rfl ?_
        refine xo_rd (rd_move rfl) rfl ?_
        refine xo_rd (rd_assign rfl) rfl ?_
        refine xo_rd (rd_assign rfl) rfl ?_
        refine xo_nil ?_
        refine xq_seq ?_
        refine xc_ret ?_
      have hl1 : ((xs.drop 4).take (4 * n)).length = 4 * n := by rw [List.length_take, List.length_drop]; omega
      have hl2 : ((xs.drop 4).drop (4 * n)).length = m - 4 - 4 * n := by rw [List.length_drop, List.length_drop]; omega
      rw [hl1, hl2]
      exact xq_ret2 (.inl rfl) Try.results30 rfl rfl ⟨p2, c2', q, k, l, rfl, fun L0 h => hr2 _ (hr1 _ h), hc2, hO, rfl⟩
end Go.Proofs.Ytpcmnbagalhjiaa.X
