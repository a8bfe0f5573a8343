/-
  Chapter 23: few numbers sorted in place: walks of my own.
-/
import Derived.Test.YtoolgphkfnkajaaA1
namespace Go.Proofs.Ytoolgphkfnkajaa.X
open Go Go.RowKit
set_option linter.unusedVariables false
set_option linter.unusedSimpArgs false
theorem getD_set {ys : List Int} {i : Nat} {x : Int} {a : Nat} (hi : i < ys.length) : (ys.set i x).getD a 0 = if a = i then x else ys.getD a 0 := by
  rw [List.getD_eq_getElem?_getD, List.getD_eq_getElem?_getD, List.getElem?_set]
  by_cases h : a = i
  · subst h; rw [if_pos rfl, if_pos hi, if_pos rfl]; rfl
  · rw [if_neg (Ne.symm h), if_neg h]
/-- All but what stands at j rises, up to i. -/
def SrtB (ys : List Int) (i j : Nat) : Prop := ∀ a b, a < b → b ≤ i → b ≠ j → ys.getD a 0 ≤ ys.getD b 0
def SrtT (ys : List Int) (i : Nat) : Prop := ∀ a b, a < b → b < i → ys.getD a 0 ≤ ys.getD b 0
theorem SrtB.start {ys : List Int} {i : Nat} (h : SrtT ys i) : SrtB ys i i := fun a b h1 h2 h3 => h a b h1 (by omega)
theorem SrtB.done {ys : List Int} {i j : Nat} (h : SrtB ys i j) (hj : j = 0 ∨ ys.getD (j - 1) 0 ≤ ys.getD j 0) : SrtT ys (i + 1) := fun a b h1 h2 => by
  by_cases hb : b = j
  · subst hb
    rcases hj with hj | hj
    · omega
    · by_cases ha : a = b - 1
      · subst ha; exact hj
      · exact Int.le_trans (h a (b - 1) (by omega) (by omega) (by omega)) hj
  · exact h a b h1 (by omega) hb
theorem SrtB.swap {ys : List Int} {i j : Nat} (h : SrtB ys i j) (h0 : 0 < j) (hji : j ≤ i) (hi : i < ys.length) (hlt : ys.getD j 0 < ys.getD (j - 1) 0) : SrtB ((ys.set j (ys.getD (j - 1) 0)).set (j - 1) (ys.getD j 0)) i (j - 1) := fun a b h1 h2 h3 => by
  have e : ∀ a, ((ys.set j (ys.getD (j - 1) 0)).set (j - 1) (ys.getD j 0)).getD a 0 = if a = j - 1 then ys.getD j 0 else if a = j then ys.getD (j - 1) 0 else ys.getD a 0 := fun a => by
    rw [getD_set (by rw [List.length_set]; omega), getD_set (by omega)]
  rw [e, e, if_neg h3]
  by_cases hb : b = j
  · subst hb
    rw [if_pos rfl]
    by_cases ha : a = b - 1
    · rw [if_pos ha]; omega
    · rw [if_neg ha, if_neg (by omega)]
      exact h a (b - 1) (by omega) (by omega) (by omega)
  · rw [if_neg hb]
    by_cases ha : a = j - 1
    · rw [if_pos ha]
      exact h j b (by omega) h2 hb
    · rw [if_neg ha]
      by_cases ha2 : a = j
      · rw [if_pos ha2]; exact h (j - 1) b (by omega) h2 hb
      · rw [if_neg ha2]; exact h a b h1 h2 hb
theorem swap_perm {ys : List Int} {j : Nat} (h0 : 0 < j) (hj : j < ys.length) : ((ys.set j (ys.getD (j - 1) 0)).set (j - 1) (ys.getD j 0)).Perm ys := by
  rw [List.getD_eq_getElem?_getD, List.getD_eq_getElem?_getD, List.getElem?_eq_getElem hj, List.getElem?_eq_getElem (by omega : j - 1 < ys.length)]
  exact List.set_set_perm hj (by omega)
theorem xf_isNaN {W : World} {L : List Blk} (x : Int) : XF Try.prog W 64 #[.int .u32 x] L (fun v L' => v = .bool false ∧ L' = L) := by
  refine xf_enter (args := [_]) Try.func64 rfl Try.ntmps64 rfl ?_
  focus
    refine xc_seq ?_
    refine xc_region ?_
    refine xo_rd (rd_assign rfl) rfl ?_
    refine xo_nil ?_
    refine xq_seq ?_
    refine xc_seq ?_
    refine xc_region ?_
    refine xo_rd (rd_move rfl) rfl ?_
    refine xo_rd (rd_move rfl) rfl ?_
    refine xo_rd (rd_neq rfl rfl) rfl ?_
    refine xo_rd (rd_assign rfl) rfl ?_
    refine xo_nil ?_
    refine xq_seq ?_
    refine xc_ret ?_
  all_goals exact xq_ret1 (.inl rfl) Try.results64 rfl ⟨by simp, rfl⟩
theorem xf_less {W : World} {L : List Blk} (x y : Int) (b : Bool) (hb : decide (x < y) = b) : XF Try.prog W 54 #[.int .u32 x, .int .u32 y] L (fun v L' => v = .bool b ∧ L' = L) := by
  subst hb
  refine xf_enter (args := [_, _]) Try.func54 rfl Try.ntmps54 rfl ?_
  focus
    refine xc_seq ?_
    refine xc_region ?_
    refine xo_rd (rd_assign rfl) rfl ?_
    refine xo_nil ?_
    refine xq_seq ?_
    refine xc_seq ?_
    refine xc_region ?_
    refine xo_rd (rd_move rfl) rfl ?_
    refine xo_ef rfl (ef_call rfl (XF.mono (xf_isNaN x) ?_))
    rintro v L' ⟨rfl, rfl⟩
    refine xo_rd (rd_move rfl) rfl ?_
    refine xo_gskip rfl rfl rfl rfl ?_
    refine xo_gskip rfl rfl rfl rfl ?_
    refine xo_gskip rfl rfl rfl rfl ?_
    refine xo_rd (rd_pickf rfl rfl) rfl ?_
    refine xo_rd (rd_move rfl) rfl ?_
    refine xo_grd rfl rfl (rd_move rfl) rfl ?_
    refine xo_grd rfl rfl (rd_move rfl) rfl ?_
    refine xo_grd rfl rfl (rd_lss rfl rfl) rfl ?_
    refine xo_rd (rd_pickf rfl rfl) rfl ?_
    refine xo_rd (rd_assign rfl) rfl ?_
    refine xo_nil ?_
    refine xq_seq ?_
    refine xc_ret ?_
  all_goals exact xq_ret1 (.inl rfl) Try.results54 rfl ⟨rfl, rfl⟩
/-- Where the sort stands. -/
structure InS where
  i : Nat
  ys : List Int
  l : List Blk
set_option maxHeartbeats 1600000 in
theorem xf_insertion {W : World} {R : List Blk} (p : Option Addr) (n c : Nat) (xs : List Int) (l : List Blk) (hx : xs.length = n) (hO : SlQ 1 30 (.slice p n c) n (ints .u32 xs) l) (hn : n ≤ 1000000) :
    XF Try.prog W 48 #[.slice p n c, .int .i64 0, .int .i64 n] (l ++ R) (fun v L' => v = .tuple #[] ∧ ∃ ys l', SlQ 1 30 (.slice p n c) n (ints .u32 ys) l' ∧ ys.Perm xs ∧ SrtT ys n ∧ L' = l' ++ R) := by
  refine xf_enter (args := [_, _, _]) Try.func48 rfl Try.ntmps48 rfl ?_
  focus
    refine xc_seq ?_
    refine xc_region ?_
    refine xo_rd (rd_move rfl) rfl ?_
    refine xo_rd (rd_addn rfl rfl (by omega) (by omega)) rfl ?_
    refine xo_rd (rd_assign rfl) rfl ?_
    refine xo_nil ?_
    refine xq_seq ?_
    refine xc_block ?_
  refine xc_loopI (ι := InS) (fun s => 1 ≤ s.i ∧ (s.i ≤ n ∨ s.i = 1) ∧ s.ys.Perm xs ∧ SrtT s.ys s.i ∧ SlQ 1 30 (.slice p n c) n (ints .u32 s.ys) s.l) (fun s => n - s.i) (fun s => s.l ++ R) (fun s => [(0, .slice p n c), (1, .int .i64 0), (2, .int .i64 n), (6, .int .i64 s.i)]) ⟨1, xs, l⟩ ⟨Nat.le_refl _, .inr rfl, List.Perm.refl _, (fun a b h1 h2 => by dsimp only at h2; omega), hO⟩ rfl (by repeat (first | exact keep_nil | refine keep_cons rfl ?_)) ?_
  rintro ⟨i, ys, l1⟩ ⟨hi1, hin1, hpm, hsr, hO1⟩
  dsimp only at hi1 hin1 hpm hsr hO1 ⊢
  have hyl : ys.length = n := by rw [hpm.length_eq, hx]
  by_cases hin : i < n
  case neg =>
    focus
      refine xc_seq ?_
      refine xc_seq ?_
      refine xc_region ?_
      refine xo_rd (rd_move rfl) rfl ?_
      refine xo_rd (rd_move rfl) rfl ?_
      refine xo_rd (rd_lss rfl rfl) rfl ?_
      refine xo_nil ?_
      refine xq_seq ?_
      refine xc_dec rfl (fun h1 => (by exfalso; omega)) (fun h1 => ?_)
      refine xc_exit ?_
      refine xq_then_exit ?_
      refine xq_then_exit ?_
      refine xq_block_hit ?_
    exact xq_ret0 (.inr rfl) Try.results48 ⟨rfl, ys, l1, hO1, hpm, (fun a b h1 h2 => hsr a b h1 (by omega)), rfl⟩
  focus
    refine xc_seq ?_
    refine xc_seq ?_
    refine xc_region ?_
    refine xo_rd (rd_move rfl) rfl ?_
    refine xo_rd (rd_move rfl) rfl ?_
    refine xo_rd (rd_lss rfl rfl) rfl ?_
    refine xo_nil ?_
    refine xq_seq ?_
    refine xc_dec rfl (fun h1 => ?_) (fun h1 => (by exfalso; omega))
    refine xc_skip ?_
    refine xq_seq ?_
    refine xc_seq ?_
    refine xc_block ?_
    refine xc_seq ?_
    refine xc_region ?_
    refine xo_rd (rd_move rfl) rfl ?_
    refine xo_rd (rd_assign rfl) rfl ?_
    refine xo_nil ?_
    refine xq_seq ?_
    refine xc_block ?_
  refine xc_loopI (ι := InS) (fun s => s.i ≤ i ∧ s.ys.Perm xs ∧ SrtB s.ys i s.i ∧ SlQ 1 30 (.slice p n c) n (ints .u32 s.ys) s.l) (fun s => s.i) (fun s => s.l ++ R) (fun s => [(0, .slice p n c), (1, .int .i64 0), (2, .int .i64 n), (6, .int .i64 i), (7, .int .i64 s.i)]) ⟨i, ys, l1⟩ ⟨Nat.le_refl _, hpm, SrtB.start hsr, hO1⟩ rfl (by repeat (first | exact keep_nil | refine keep_cons rfl ?_)) ?_
  clear hpm hsr hO1 hyl
  rintro ⟨j, ys, l1⟩ ⟨hji, hpm, hsr, hO1⟩
  dsimp only at hji hpm hsr hO1 ⊢
  have hyl : ys.length = n := by rw [hpm.length_eq, hx]
  by_cases hj0 : j = 0
  · subst hj0
    focus
      refine xc_seq ?_
      refine xc_seq ?_
      refine xc_drawML [0, 0, 3, 4, 8, 8, 56, 72, 8, 8, 520, 1288, 2056, 4232, 8200] [0, 0, 3, 4, 8, 8, 56, 72, 8, 8, 520, 1288, 2056, 4232, 8200] (by kernel_rfl) (by kernel_rfl) (by kernel_rfl) ?_
      refine xm_take 0 (m' := 1) rfl (by kernel_rfl) Sb.a (rd_move rfl) rfl (by kernel_rfl) ?_
      refine xm_take 1 (m' := 3) rfl (by kernel_rfl) Sb.a (rd_move rfl) rfl (by kernel_rfl) ?_
      refine xm_take 2 (m' := 7) rfl (by kernel_rfl) Sb.a (rd_gtr rfl rfl) rfl (by kernel_rfl) ?_
      refine xm_take 3 (m' := 15) rfl (by kernel_rfl) Sb.a (rd_move rfl) rfl (by kernel_rfl) ?_
      refine xm_gskip 4 (m' := 31) rfl (by kernel_rfl) Sb.a rfl rfl rfl rfl (by kernel_rfl) ?_
      refine xm_gskip 5 (m' := 63) rfl (by kernel_rfl) Sb.a rfl rfl rfl rfl (by kernel_rfl) ?_
      refine xm_gskip 6 (m' := 127) rfl (by kernel_rfl) Sb.a rfl rfl rfl rfl (by kernel_rfl) ?_
      refine xm_gskip 7 (m' := 255) rfl (by kernel_rfl) Sb.a rfl rfl rfl rfl (by kernel_rfl) ?_
      refine xm_gskip 8 (m' := 511) rfl (by kernel_rfl) Sb.a rfl rfl rfl rfl (by kernel_rfl) ?_
      refine xm_gskip 9 (m' := 1023) rfl (by kernel_rfl) Sb.a rfl rfl rfl rfl (by kernel_rfl) ?_
      refine xm_gskip 10 (m' := 2047) rfl (by kernel_rfl) Sb.a rfl rfl rfl rfl (by kernel_rfl) ?_
      refine xm_gskip 11 (m' := 4095) rfl (by kernel_rfl) Sb.a rfl rfl rfl rfl (by kernel_rfl) ?_
      refine xm_gskip 12 (m' := 8191) rfl (by kernel_rfl) Sb.a rfl rfl rfl rfl (by kernel_rfl) ?_
      refine xm_gskip 13 (m' := 16383) rfl (by kernel_rfl) Sb.a rfl rfl rfl rfl (by kernel_rfl) ?_
      refine xm_take 14 (m' := 32767) rfl (by kernel_rfl) Sb.a (rd_pickf rfl rfl) rfl (by kernel_rfl) ?_
      refine xm_done (by kernel_rfl) ?_
      refine xq_seq ?_
      refine xc_condf rfl ?_
      refine xc_exit ?_
      refine xq_then_exit ?_
      refine xq_then_exit ?_
      refine xq_block_hit ?_
      refine xq_block ?_
      refine xq_seq ?_
      refine xc_region ?_
      refine xo_rd (rd_move rfl) rfl ?_
      refine xo_rd (rd_addn rfl rfl (by omega) (by omega)) rfl ?_
      refine xo_rd (rd_assign rfl) rfl ?_
      refine xo_nil ?_
    all_goals exact xq_roundI (⟨i + 1, ys, l1⟩ : InS) ⟨by dsimp only; omega, by dsimp only; omega, hpm, hsr.done (.inl rfl), hO1⟩ (by dsimp only; omega) rfl (by repeat (first | exact keep_nil | refine keep_cons rfl ?_))
  have hrs : Rs W (l1 ++ R) p (ints .u32 ys) := hO1.rsl
  obtain ⟨b, o, hpb, hc⟩ := hrs.int (i := j) (by omega)
  obtain ⟨b', o', hpb', hc'⟩ := hrs.int (i := j - 1) (by omega)
  rw [hpb] at hpb'
  simp only [Option.some.injEq, Addr.mk.injEq, and_true] at hpb'
  obtain ⟨rfl, rfl⟩ := hpb'
  subst hpb
  have e1 : ys[j]'(by omega) = ys.getD j 0 := by rw [List.getD_eq_getElem?_getD, List.getElem?_eq_getElem (by omega)]; rfl
  have e2 : ys[j - 1]'(by omega) = ys.getD (j - 1) 0 := by rw [List.getD_eq_getElem?_getD, List.getElem?_eq_getElem (by omega)]; rfl
  rw [e1] at hc
  rw [e2] at hc'
  have hc2 : Cl W (l1 ++ R) b (o + ((j : Int) - 1).toNat * 1) (.int .u32 (ys.getD (j - 1) 0)) := by
    have : ((j : Int) - 1).toNat = ((j - 1 : Nat) : Int).toNat := by omega
    rw [this]; exact hc'
  by_cases hlt : ys.getD j 0 < ys.getD (j - 1) 0
  · have hsw := hsr.swap (by omega) hji (by omega) hlt
    have hpm2 := (swap_perm (ys := ys) (j := j) (by omega) (by omega)).trans hpm
    generalize hX : ys.getD j 0 = X at *
    generalize hY : ys.getD (j - 1) 0 = Y at *
    focus
      refine xc_seq ?_
      refine xc_seq ?_
      refine xc_drawM [0, 0, 3, 4, 8, 8, 56, 72, 8, 8, 520, 1288, 2056, 4232, 8200] [0, 0, 3, 4, 8, 8, 56, 72, 8, 8, 520, 1288, 2056, 4232, 8200] (l1 ++ R) (by kernel_rfl) (by kernel_rfl) (by kernel_rfl) ?_
      refine xm_take 0 (m' := 1) rfl (by kernel_rfl) Sb.a (rd_move rfl) rfl (by kernel_rfl) ?_
      refine xm_take 1 (m' := 3) rfl (by kernel_rfl) Sb.a (rd_move rfl) rfl (by kernel_rfl) ?_
      refine xm_take 2 (m' := 7) rfl (by kernel_rfl) Sb.a (rd_gtr rfl rfl) rfl (by kernel_rfl) ?_
      refine xm_take 3 (m' := 15) rfl (by kernel_rfl) Sb.a (rd_move rfl) rfl (by kernel_rfl) ?_
      refine xm_dec 19 rfl (fun h1 => ?_) (fun h1 => (by exfalso; omega))
      refine xm_gtake 4 (m' := 31) rfl (by kernel_rfl) Sb.a rfl rfl (rd_move rfl) rfl (by kernel_rfl) ?_
      refine xm_gtake 5 (m' := 63) rfl (by kernel_rfl) Sb.a rfl rfl (rd_move rfl) rfl (by kernel_rfl) ?_
      refine xm_gtake 6 (m' := 127) rfl (by kernel_rfl) Sb.a rfl rfl (rd_indexAddr rfl rfl (by omega) (by omega)) rfl (by kernel_rfl) ?_
      refine xm_gtake 7 (m' := 255) rfl (by kernel_rfl) Sb.a rfl rfl (rd_load1 rfl hc) rfl (by kernel_rfl) ?_
      refine xm_gtake 8 (m' := 511) rfl (by kernel_rfl) Sb.a rfl rfl (rd_move rfl) rfl (by kernel_rfl) ?_
      refine xm_gtake 9 (m' := 1023) rfl (by kernel_rfl) Sb.a rfl rfl (rd_move rfl) rfl (by kernel_rfl) ?_
      refine xm_gtake 10 (m' := 2047) rfl (by kernel_rfl) Sb.a rfl rfl (rd_subn rfl rfl (by omega) (by omega)) rfl (by kernel_rfl) ?_
      refine xm_gtake 11 (m' := 4095) rfl (by kernel_rfl) Sb.a rfl rfl (rd_indexAddr rfl rfl (by omega) (by omega)) rfl (by kernel_rfl) ?_
      refine xm_gtake 12 (m' := 8191) rfl (by kernel_rfl) Sb.a rfl rfl (rd_load1 rfl hc2) rfl (by kernel_rfl) ?_
      refine xm_gone 13 (m' := 16383) rfl (by kernel_rfl) rfl rfl rfl (by kernel_rfl) (ef_call rfl (XF.mono (xf_less X Y true (decide_eq_true hlt)) ?_))
      rintro v L' ⟨rfl, rfl⟩
      refine ⟨Sb.a, ?_⟩
      refine xm_take 14 (m' := 32767) rfl (by kernel_rfl) Sb.a (rd_pickt rfl rfl) rfl (by kernel_rfl) ?_
      refine xm_done (by kernel_rfl) ?_
      refine xq_seq ?_
      refine xc_condt rfl ?_
      refine xc_skip ?_
      refine xq_seq ?_
    have hcX : ∀ l2, SlQ 1 30 (.slice (some ⟨b, o, none⟩) n c) n (ints .u32 (ys.set j Y)) l2 → Cl W (l2 ++ R) b (o + (j : Int).toNat * 1) (.int .u32 Y) := fun l2 h => by
      obtain ⟨b2, o2, h1, h2⟩ := (h.rsl (W := W) (R := R)).int (i := j) (by rw [List.length_set]; omega)
      simp only [Option.some.injEq, Addr.mk.injEq, and_true] at h1
      obtain ⟨rfl, rfl⟩ := h1
      rw [List.getElem_set_self] at h2
      exact h2
    focus
      refine xc_seq ?_
      refine xc_block ?_
      refine xc_drawM [0, 0, 0, 0, 8, 0, 0, 64, 160, 256, 0, 0, 3072, 4096, 9187, 25571, 65535, 131071] [0, 0, 0, 0, 8, 0, 0, 64, 160, 256, 0, 0, 3072, 4096, 9187, 25571, 65535, 131071] [] (by kernel_rfl) (by kernel_rfl) (by kernel_rfl) ?_
      refine xm_take 0 (m' := 1) rfl (by kernel_rfl) Sb.a (rd_move rfl) rfl (by kernel_rfl) ?_
      refine xm_take 1 (m' := 3) rfl (by kernel_rfl) Sb.a (rd_move rfl) rfl (by kernel_rfl) ?_
      refine xm_take 2 (m' := 7) rfl (by kernel_rfl) Sb.a (rd_move rfl) rfl (by kernel_rfl) ?_
      refine xm_take 3 (m' := 15) rfl (by kernel_rfl) Sb.a (rd_move rfl) rfl (by kernel_rfl) ?_
      refine xm_take 4 (m' := 31) rfl (by kernel_rfl) Sb.a (rd_subn rfl rfl (by omega) (by omega)) rfl (by kernel_rfl) ?_
      refine xm_take 5 (m' := 63) rfl (by kernel_rfl) Sb.a (rd_move rfl) rfl (by kernel_rfl) ?_
      refine xm_take 6 (m' := 127) rfl (by kernel_rfl) Sb.a (rd_move rfl) rfl (by kernel_rfl) ?_
      refine xm_take 7 (m' := 255) rfl (by kernel_rfl) Sb.a (rd_subn rfl rfl (by omega) (by omega)) rfl (by kernel_rfl) ?_
      refine xm_take 8 (m' := 511) rfl (by kernel_rfl) Sb.a (rd_indexAddr rfl rfl (by omega) (by omega)) rfl (by kernel_rfl) ?_
      refine xm_take 10 (m' := 1535) rfl (by kernel_rfl) Sb.a (rd_move rfl) rfl (by kernel_rfl) ?_
      refine xm_take 11 (m' := 3583) rfl (by kernel_rfl) Sb.a (rd_move rfl) rfl (by kernel_rfl) ?_
      refine xm_take 12 (m' := 7679) rfl (by kernel_rfl) Sb.a (rd_indexAddr rfl rfl (by omega) (by omega)) rfl (by kernel_rfl) ?_
      refine xm_two 9 13 (mi := 8191) (mk := 15871) rfl rfl (by kernel_rfl) rfl rfl (by kernel_rfl) (by kernel_rfl) (ef_rd (rd_load1 rfl hc2) ⟨Sb.a, ?_⟩) (ef_rd (rd_load1 rfl hc) ⟨Sb.a, ?_⟩)
      refine xm_one 13 (m' := 16383) rfl (by kernel_rfl) rfl (by kernel_rfl) (ef_rd (rd_load1 rfl hc) ?_)
      refine ⟨Sb.a, ?_⟩
      refine xm_take 14 (m' := 32767) rfl (by kernel_rfl) Sb.a (rd_indexAddr rfl rfl (by omega) (by omega)) rfl (by kernel_rfl) ?_
      refine xm_one 15 (m' := 65535) rfl (by kernel_rfl) rfl (by kernel_rfl) (ef_storeQ1 [] R j (v := .int .u32 Y) hO1 rfl (by omega) rfl rfl rfl (by omega) rfl fun l2 hO2 => ?_)
      refine ⟨Sb.a, ?_⟩
      refine xm_take 16 (m' := 131071) rfl (by kernel_rfl) Sb.a (rd_indexAddr rfl rfl (by omega) (by omega)) rfl (by kernel_rfl) ?_
      refine xm_one 17 (m' := 262143) rfl (by kernel_rfl) rfl (by kernel_rfl) (ef_storeQ1 [] R (j - 1) (v := .int .u32 X) hO2 rfl (by omega) rfl rfl rfl (by omega) rfl fun l3 hO3 => ?_)
      refine ⟨Sb.a, ?_⟩
      refine xm_done (by kernel_rfl) ?_
      refine xq_block ?_
      refine xq_seq ?_
      refine xc_region ?_
      refine xo_rd (rd_move rfl) rfl ?_
      refine xo_rd (rd_subn rfl rfl (by omega) (by omega)) rfl ?_
      refine xo_rd (rd_assign rfl) rfl ?_
      refine xo_nil ?_
      rotate_left
      refine xm_one 9 (m' := 16383) rfl (by kernel_rfl) rfl (by kernel_rfl) (ef_rd (rd_load1 rfl hc2) ?_)
      refine ⟨Sb.a, ?_⟩
      refine xm_take 14 (m' := 32767) rfl (by kernel_rfl) Sb.a (rd_indexAddr rfl rfl (by omega) (by omega)) rfl (by kernel_rfl) ?_
      refine xm_one 15 (m' := 65535) rfl (by kernel_rfl) rfl (by kernel_rfl) (ef_storeQ1 [] R j (v := .int .u32 Y) hO1 rfl (by omega) rfl rfl rfl (by omega) rfl fun l2 hO2 => ?_)
      refine ⟨Sb.a, ?_⟩
      refine xm_take 16 (m' := 131071) rfl (by kernel_rfl) Sb.a (rd_indexAddr rfl rfl (by omega) (by omega)) rfl (by kernel_rfl) ?_
      refine xm_one 17 (m' := 262143) rfl (by kernel_rfl) rfl (by kernel_rfl) (ef_storeQ1 [] R (j - 1) (v := .int .u32 X) hO2 rfl (by omega) rfl rfl rfl (by omega) rfl fun l3 hO3 => ?_)
      refine ⟨Sb.a, ?_⟩
      refine xm_done (by kernel_rfl) ?_
      refine xq_block ?_
      refine xq_seq ?_
      refine xc_region ?_
      refine xo_rd (rd_move rfl) rfl ?_
      refine xo_rd (rd_subn rfl rfl (by omega) (by omega)) rfl ?_
      refine xo_rd (rd_assign rfl) rfl ?_
      refine xo_nil ?_
      rotate_left
    all_goals exact xq_roundI (⟨j - 1, (ys.set j Y).set (j - 1) X, l3⟩ : InS) ⟨by dsimp only; omega, hpm2, hsw, by dsimp only; rw [ints_set, ints_set]; exact hO3⟩ (by dsimp only; omega) rfl (by dsimp only; rw [show ((j - 1 : Nat) : Int) = (j : Int) - 1 by omega]; exact (by repeat (first | exact keep_nil | refine keep_cons rfl ?_)))
  · skip
    focus
      refine xc_seq ?_
      refine xc_seq ?_
      refine xc_drawM [0, 0, 3, 4, 8, 8, 56, 72, 8, 8, 520, 1288, 2056, 4232, 8200] [0, 0, 3, 4, 8, 8, 56, 72, 8, 8, 520, 1288, 2056, 4232, 8200] (l1 ++ R) (by kernel_rfl) (by kernel_rfl) (by kernel_rfl) ?_
      refine xm_take 0 (m' := 1) rfl (by kernel_rfl) Sb.a (rd_move rfl) rfl (by kernel_rfl) ?_
      refine xm_take 1 (m' := 3) rfl (by kernel_rfl) Sb.a (rd_move rfl) rfl (by kernel_rfl) ?_
      refine xm_take 2 (m' := 7) rfl (by kernel_rfl) Sb.a (rd_gtr rfl rfl) rfl (by kernel_rfl) ?_
      refine xm_take 3 (m' := 15) rfl (by kernel_rfl) Sb.a (rd_move rfl) rfl (by kernel_rfl) ?_
      refine xm_dec 19 rfl (fun h1 => ?_) (fun h1 => (by exfalso; omega))
      refine xm_gtake 4 (m' := 31) rfl (by kernel_rfl) Sb.a rfl rfl (rd_move rfl) rfl (by kernel_rfl) ?_
      refine xm_gtake 5 (m' := 63) rfl (by kernel_rfl) Sb.a rfl rfl (rd_move rfl) rfl (by kernel_rfl) ?_
      refine xm_gtake 6 (m' := 127) rfl (by kernel_rfl) Sb.a rfl rfl (rd_indexAddr rfl rfl (by omega) (by omega)) rfl (by kernel_rfl) ?_
      refine xm_gtake 7 (m' := 255) rfl (by kernel_rfl) Sb.a rfl rfl (rd_load1 rfl hc) rfl (by kernel_rfl) ?_
      refine xm_gtake 8 (m' := 511) rfl (by kernel_rfl) Sb.a rfl rfl (rd_move rfl) rfl (by kernel_rfl) ?_
      refine xm_gtake 9 (m' := 1023) rfl (by kernel_rfl) Sb.a rfl rfl (rd_move rfl) rfl (by kernel_rfl) ?_
      refine xm_gtake 10 (m' := 2047) rfl (by kernel_rfl) Sb.a rfl rfl (rd_subn rfl rfl (by omega) (by omega)) rfl (by kernel_rfl) ?_
      refine xm_gtake 11 (m' := 4095) rfl (by kernel_rfl) Sb.a rfl rfl (rd_indexAddr rfl rfl (by omega) (by omega)) rfl (by kernel_rfl) ?_
      refine xm_gtake 12 (m' := 8191) rfl (by kernel_rfl) Sb.a rfl rfl (rd_load1 rfl hc2) rfl (by kernel_rfl) ?_
      refine xm_gone 13 (m' := 16383) rfl (by kernel_rfl) rfl rfl rfl (by kernel_rfl) (ef_call rfl (XF.mono (xf_less _ _ false (decide_eq_false hlt)) ?_))
      rintro v L' ⟨rfl, rfl⟩
      refine ⟨Sb.a, ?_⟩
      refine xm_take 14 (m' := 32767) rfl (by kernel_rfl) Sb.a (rd_pickt rfl rfl) rfl (by kernel_rfl) ?_
      refine xm_done (by kernel_rfl) ?_
      refine xq_seq ?_
      refine xc_condf rfl ?_
      refine xc_exit ?_
      refine xq_then_exit ?_
      refine xq_then_exit ?_
      refine xq_block_hit ?_
      refine xq_block ?_
      refine xq_seq ?_
      refine xc_region ?_
      refine xo_rd (rd_move rfl) rfl ?_
      refine xo_rd (rd_addn rfl rfl (by omega) (by omega)) rfl ?_
      refine xo_rd (rd_assign rfl) rfl ?_
      refine xo_nil ?_
    all_goals exact xq_roundI (⟨i + 1, ys, l1⟩ : InS) ⟨by dsimp only; omega, by dsimp only; omega, hpm, hsr.done (.inr (by omega)), hO1⟩ (by dsimp only; omega) rfl (by repeat (first | exact keep_nil | refine keep_cons rfl ?_))
end Go.Proofs.Ytoolgphkfnkajaa.X
