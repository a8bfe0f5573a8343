/-
  Costs and plans: what is right, what a plan costs: the program's functions and the reference's, by walks of my own.
-/
import Derived.Test.YtnghandgghfloaaX6
import Derived.Test.YtnghandgghfloaaX14
namespace Go.Proofs.Ytnghandgghfloaa.X
open Go Go.RowKit
set_option linter.unusedVariables false
set_option linter.unusedSimpArgs false
def bls (l : List Bool) : List Value := l.map Value.bool
theorem bls_len (l : List Bool) : (bls l).length = l.length := by simp [bls]
theorem bls_one (l : List Bool) : (bls l).all (·.oneCell') = true := by simp [bls, List.all_map, Value.oneCell']
theorem bls_app (l r : List Bool) : bls (l ++ r) = bls l ++ bls r := by simp [bls]
theorem Rs.bool {W : World} {L : List Blk} {p : Option Addr} {l : List Bool} (hr : Rs W L p (bls l)) {i : Nat} (hi : i < l.length) :
    ∃ b o, p = some ⟨b, o, none⟩ ∧ Cl W L b (o + i * 1) (.bool l[i]) := by
  obtain ⟨b, o, hp, hc⟩ := hr _ _ (show (bls l)[i]? = some (.bool l[i]) by simp [bls, hi])
  exact ⟨b, o, hp, by rw [Nat.mul_one]; exact hc⟩
def U (n : Int) : Prop := 0 ≤ n ∧ n ≤ 18446744073709551615
def sat (a b : Int) : Int := if 18446744073709551615 < a + b then 18446744073709551615 else a + b
theorem sat_U {a b : Int} (ha : U a) (hb : U b) : U (sat a b) := by unfold sat; unfold U at *; split <;> omega
def Srt (l : List Int) : Prop := ∀ i, (h : i + 1 < l.length) → l[i] ≤ l[i + 1]
def Rgt (ct cm : List Int) : Prop := ct.length ≤ 4 ∧ cm.length ≤ 32 ∧ Srt ct ∧ ∀ h : 0 < ct.length, ct[0] ≤ 1500
/-- The base cost of a cap. -/
def baseC (ct : List Int) (cap : Int) : Int := if 0 ≤ cap ∧ 0 < ct.length then ct.getD (min cap (ct.length - 1)).toNat 0 else 0
def sumC (s : Int) (l : List (Int × Bool)) : Int := l.foldl (fun s p => if p.2 then sat s p.1 else s) s
def costC (ct cm : List Int) (cap : Int) (on : List Bool) : Int := sumC (baseC ct cap) (cm.zip on)
theorem sumC_U {s : Int} (hs : U s) : ∀ (l : List (Int × Bool)), (∀ p, p ∈ l → U p.1) → U (sumC s l)
  | [], _ => hs
  | p :: r, h => by
    show U (sumC (if p.2 then sat s p.1 else s) r)
    refine sumC_U ?_ r fun q hq => h q (List.mem_cons_of_mem _ hq)
    split
    · exact sat_U hs (h p (List.Mem.head _))
    · exact hs
theorem sumC_snoc (s : Int) (l : List (Int × Bool)) (p : Int × Bool) : sumC s (l ++ [p]) = if p.2 then sat (sumC s l) p.1 else sumC s l := by unfold sumC; rw [List.foldl_append]; rfl
theorem base_U {ct : List Int} (h : ∀ x, x ∈ ct → U x) (cap : Int) : U (baseC ct cap) := by
  unfold baseC
  split
  · rename_i hc
    have hi : (min cap (ct.length - 1)).toNat < ct.length := by omega
    rw [List.getD_eq_getElem?_getD, List.getElem?_eq_getElem hi]
    exact h _ (List.getElem_mem _)
  · exact ⟨by omega, by omega⟩
theorem xf_isNaN {W : World} {L : List Blk} (a : Int) : XF Try.prog W 34 #[.int .u64 a] L (fun v L' => v = .bool false ∧ L' = L) := by
  refine xf_enter (args := [_]) Try.func34 rfl Try.ntmps34 rfl ?_
  focus
    refine xc_seq ?_
    refine xc_region ?_
    refine xo_rd (rd_assign rfl) rfl ?_
    refine xo_nil ?_
    refine xq_seq ?_
    refine xc_seq ?_
    refine xc_region ?_
    refine xo_rd (rd_move rfl) rfl ?_
    refine xo_rd (rd_move rfl) rfl ?_
    refine xo_rd (rd_neq rfl rfl) rfl ?_
    refine xo_rd (rd_assign rfl) rfl ?_
    refine xo_nil ?_
    refine xq_seq ?_
    refine xc_ret ?_
  exact xq_ret1 (.inl rfl) Try.results34 rfl ⟨by rw [show decide (a = a) = true from by simp]; rfl, rfl⟩
theorem xf_less {W : World} {L : List Blk} (a b : Int) : XF Try.prog W 32 #[.int .u64 a, .int .u64 b] L (fun v L' => v = .bool (decide (a < b)) ∧ L' = L) := by
  refine xf_enter (args := [_, _]) Try.func32 rfl Try.ntmps32 rfl ?_
  focus
    refine xc_seq ?_
    refine xc_region ?_
    refine xo_rd (rd_assign rfl) rfl ?_
    refine xo_nil ?_
    refine xq_seq ?_
    refine xc_seq ?_
    refine xc_region ?_
    refine xo_rd (rd_move rfl) rfl ?_
    refine xo_ef rfl (ef_call rfl (XF.mono (xf_isNaN _) ?_))
    rintro v L' ⟨rfl, rfl⟩
    refine xo_rd (rd_move rfl) rfl ?_
    refine xo_gskip rfl rfl rfl rfl ?_
    refine xo_gskip rfl rfl rfl rfl ?_
    refine xo_gskip rfl rfl rfl rfl ?_
    refine xo_rd (rd_pickf rfl rfl) rfl ?_
    refine xo_rd (rd_move rfl) rfl ?_
    refine xo_grd rfl rfl (rd_move rfl) rfl ?_
    refine xo_grd rfl rfl (rd_move rfl) rfl ?_
    refine xo_grd rfl rfl (rd_lss rfl rfl) rfl ?_
    refine xo_rd (rd_pickf rfl rfl) rfl ?_
    refine xo_rd (rd_assign rfl) rfl ?_
    refine xo_nil ?_
    refine xq_seq ?_
    refine xc_ret ?_
    exact xq_ret1 (.inl rfl) Try.results32 rfl (⟨rfl, rfl⟩)
theorem xf_add {W : World} {L : List Blk} (a b : Int) (ha : U a) (hb : U b) : XF Try.prog W 26 #[.int .u64 a, .int .u64 b] L (fun v L' => v = .int .u64 (sat a b) ∧ L' = L) := by
  have ha' := ha; have hb' := hb
  unfold U at ha' hb'
  refine xf_enter (args := [_, _]) Try.func26 rfl Try.ntmps26 rfl ?_
  focus
    refine xc_seq ?_
    refine xc_region ?_
    refine xo_rd (rd_assign rfl) rfl ?_
    refine xo_nil ?_
    refine xq_seq ?_
    refine xc_seq ?_
    refine xc_seq ?_
    refine xc_region ?_
    refine xo_rd (rd_move rfl) rfl ?_
    refine xo_rd (rd_move rfl) rfl ?_
    refine xo_rd (rd_subn rfl rfl (by omega) (by omega)) rfl ?_
    refine xo_rd (rd_gtr rfl rfl) rfl ?_
    refine xo_nil ?_
    refine xq_seq ?_
    refine xc_dec rfl (fun hz1 => ?_) (fun hz1 => ?_)
    refine xc_seq ?_
    refine xc_region ?_
    refine xo_rd (rd_assign rfl) rfl ?_
    refine xo_nil ?_
    refine xq_seq ?_
    refine xc_ret ?_
    refine xq_then_ret ?_
    rotate_left
    refine xc_skip ?_
    refine xq_seq ?_
    refine xc_seq ?_
    refine xc_region ?_
    refine xo_rd (rd_move rfl) rfl ?_
    refine xo_rd (rd_move rfl) rfl ?_
    refine xo_rd (rd_addn rfl rfl (by omega) (by omega)) rfl ?_
    refine xo_rd (rd_assign rfl) rfl ?_
    refine xo_nil ?_
    refine xq_seq ?_
    refine xc_ret ?_
    rotate_left
  · exact xq_ret1 (.inl rfl) Try.results26 rfl ⟨by unfold sat; rw [if_pos (by omega)], rfl⟩
  · exact xq_ret1 (.inl rfl) Try.results26 rfl ⟨by unfold sat; rw [if_neg (by omega)], rfl⟩
theorem xf_sorted {W : World} {L : List Blk} (p : Option Addr) (n c : Nat) (l : List Int) (hl : l.length = n) (hr : Rs W L p (ints .u64 l)) (hn : n ≤ 9223372036854775807) : XF Try.prog W 25 #[.slice p n c] L (fun v L' => (∃ b, v = .bool b ∧ (b = true ↔ Srt l)) ∧ L' = L) := by
  refine xf_enter (args := [_]) Try.func25 rfl Try.ntmps25 rfl ?_
  focus
    refine xc_seq ?_
    refine xc_region ?_
    refine xo_rd (rd_assign rfl) rfl ?_
    refine xo_nil ?_
    refine xq_seq ?_
    refine xc_seq ?_
    refine xc_seq ?_
    refine xc_region ?_
    refine xo_rd (rd_move rfl) rfl ?_
    refine xo_rd (rd_len rfl) rfl ?_
    refine xo_rd (rd_subn rfl rfl (by omega) (by omega)) rfl ?_
    refine xo_rd (rd_assign rfl) rfl ?_
    refine xo_nil ?_
    refine xq_seq ?_
    refine xc_block ?_
  refine xc_loopI (ι := Int) (fun i => -1 ≤ i ∧ i < n ∧ ∀ k, (h : k + 1 < l.length) → i ≤ k → l[k] ≤ l[k + 1]) (fun i => (i + 1).toNat) (fun _ => L) (fun i => [(0, .slice p n c), (3, .int .i64 i)]) (n - 1) ⟨by omega, by omega, fun k h h2 => by omega⟩ rfl (by repeat (first | exact keep_nil | refine keep_cons rfl ?_)) ?_
  rintro i ⟨hi0, hi, hs⟩
  focus
    refine xc_seq ?_
    refine xc_seq ?_
    refine xc_region ?_
    refine xo_rd (rd_move rfl) rfl ?_
    refine xo_rd (rd_gtr rfl rfl) rfl ?_
    refine xo_nil ?_
    refine xq_seq ?_
    refine xc_dec rfl (fun hi1 => ?_) (fun hi1 => ?_)
    refine xc_skip ?_
    refine xq_seq ?_
    refine xc_seq ?_
    refine xc_block ?_
    refine xc_seq ?_
    refine xc_drawML [0, 0, 3, 4, 0, 0, 32, 80, 128, 264] [0, 0, 3, 4, 0, 0, 32, 80, 128, 264] (by kernel_rfl) (by kernel_rfl) (by kernel_rfl) ?_
    refine xm_take 0 (m' := 1) rfl (by kernel_rfl) (by first | exact Sb.refl | exact Sb.nil | (repeat (first | exact Sb.nil | exact Sb.refl | exact Sb.app0 | apply Sb.keep | apply Sb.keepApp | apply Sb.cons | apply Sb.app))) (rd_move rfl) rfl (by kernel_rfl) ?_
    refine xm_take 1 (m' := 3) rfl (by kernel_rfl) (by first | exact Sb.refl | exact Sb.nil | (repeat (first | exact Sb.nil | exact Sb.refl | exact Sb.app0 | apply Sb.keep | apply Sb.keepApp | apply Sb.cons | apply Sb.app))) (rd_move rfl) rfl (by kernel_rfl) ?_
    refine xm_take 4 (m' := 19) rfl (by kernel_rfl) (by first | exact Sb.refl | exact Sb.nil | (repeat (first | exact Sb.nil | exact Sb.refl | exact Sb.app0 | apply Sb.keep | apply Sb.keepApp | apply Sb.cons | apply Sb.app))) (rd_move rfl) rfl (by kernel_rfl) ?_
    refine xm_take 5 (m' := 51) rfl (by kernel_rfl) (by first | exact Sb.refl | exact Sb.nil | (repeat (first | exact Sb.nil | exact Sb.refl | exact Sb.app0 | apply Sb.keep | apply Sb.keepApp | apply Sb.cons | apply Sb.app))) (rd_move rfl) rfl (by kernel_rfl) ?_
    refine xm_take 6 (m' := 115) rfl (by kernel_rfl) (by first | exact Sb.refl | exact Sb.nil | (repeat (first | exact Sb.nil | exact Sb.refl | exact Sb.app0 | apply Sb.keep | apply Sb.keepApp | apply Sb.cons | apply Sb.app))) (rd_subn rfl rfl (by omega) (by omega)) rfl (by kernel_rfl) ?_
    rotate_left
    refine xc_exit ?_
    refine xq_then_exit ?_
    refine xq_then_exit ?_
    refine xq_block_hit ?_
    refine xq_seq ?_
    refine xc_seq ?_
    refine xc_region ?_
    refine xo_rd (rd_assign rfl) rfl ?_
    refine xo_nil ?_
    refine xq_seq ?_
    refine xc_ret ?_
    rotate_left
  · obtain ⟨j, rfl⟩ : ∃ j : Nat, i = (j : Int) + 1 := ⟨(i - 1).toNat, by omega⟩
    have hj : j + 1 < l.length := by omega
    obtain ⟨b1, o1, hp, h1⟩ := hr.int (i := j + 1) hj
    obtain ⟨b2, o2, hp2, h2⟩ := hr.int (i := j) (by omega)
    subst hp
    obtain ⟨rfl, rfl⟩ : b1 = b2 ∧ o1 = o2 := by simpa using hp2
    have et : ((j : Int) + 1).toNat = j + 1 := by omega
    have et2 : ((j : Int) + 1 - 1).toNat = j := by omega
    have g1 : Cl W L b1 (o1 + ((j : Int) + 1).toNat * 1) (.int .u64 l[j + 1]) := by rw [et]; exact h1
    have g2 : Cl W L b1 (o1 + ((j : Int) + 1 - 1).toNat * 1) (.int .u64 l[j]) := by rw [et2]; exact h2
    focus
      refine xm_take 2 (m' := 119) rfl (by kernel_rfl) (by first | exact Sb.refl | exact Sb.nil | (repeat (first | exact Sb.nil | exact Sb.refl | exact Sb.app0 | apply Sb.keep | apply Sb.keepApp | apply Sb.cons | apply Sb.app))) (rd_indexAddr rfl rfl (by omega) (by omega)) rfl (by kernel_rfl) ?_
      refine xm_take 3 (m' := 127) rfl (by kernel_rfl) (by first | exact Sb.refl | exact Sb.nil | (repeat (first | exact Sb.nil | exact Sb.refl | exact Sb.app0 | apply Sb.keep | apply Sb.keepApp | apply Sb.cons | apply Sb.app))) (rd_load1 rfl g1) rfl (by kernel_rfl) ?_
      refine xm_take 7 (m' := 255) rfl (by kernel_rfl) (by first | exact Sb.refl | exact Sb.nil | (repeat (first | exact Sb.nil | exact Sb.refl | exact Sb.app0 | apply Sb.keep | apply Sb.keepApp | apply Sb.cons | apply Sb.app))) (rd_indexAddr rfl rfl (by omega) (by omega)) rfl (by kernel_rfl) ?_
      refine xm_take 8 (m' := 511) rfl (by kernel_rfl) (by first | exact Sb.refl | exact Sb.nil | (repeat (first | exact Sb.nil | exact Sb.refl | exact Sb.app0 | apply Sb.keep | apply Sb.keepApp | apply Sb.cons | apply Sb.app))) (rd_load1 rfl g2) rfl (by kernel_rfl) ?_
      refine xm_one 9 (m' := 1023) rfl (by kernel_rfl) rfl (by kernel_rfl) (ef_call rfl (XF.mono (xf_less _ _) ?_))
      rintro v L' ⟨rfl, rfl⟩
      refine ⟨(by first | exact Sb.refl | exact Sb.nil | (repeat (first | exact Sb.nil | exact Sb.refl | exact Sb.app0 | apply Sb.keep | apply Sb.keepApp | apply Sb.cons | apply Sb.app))), ?_⟩
      refine xm_done (by kernel_rfl) ?_
      refine xq_seq ?_
      refine xc_dec rfl (fun hz1 => ?_) (fun hz1 => ?_)
      refine xc_seq ?_
      refine xc_region ?_
      refine xo_rd (rd_assign rfl) rfl ?_
      refine xo_nil ?_
      refine xq_seq ?_
      refine xc_ret ?_
      refine xq_block_ret ?_
      refine xq_then_ret ?_
      refine xq_then_ret ?_
      refine xq_block_ret ?_
      refine xq_then_ret ?_
      rotate_left
      refine xc_skip ?_
      refine xq_block ?_
      refine xq_seq ?_
      refine xc_region ?_
      refine xo_rd (rd_move rfl) rfl ?_
      refine xo_rd (rd_subn rfl rfl (by omega) (by omega)) rfl ?_
      refine xo_rd (rd_assign rfl) rfl ?_
      refine xo_nil ?_
      rotate_left
    · exact xq_ret1 (.inl rfl) Try.results25 rfl ⟨⟨false, rfl, by simp only [Bool.false_eq_true, false_iff]; exact fun h => by have := h j hj; omega⟩, rfl⟩
    · refine xq_roundI ((j : Int) + 1 - 1) ⟨by omega, by omega, fun k h hk => ?_⟩ (by omega) rfl (by repeat (first | exact keep_nil | refine keep_cons rfl ?_))
      by_cases e : k = j
      · subst e; omega
      · exact hs k h (by omega)
  · exact xq_ret1 (.inl rfl) Try.results25 rfl ⟨⟨true, rfl, by simp only [true_iff]; exact fun k h => hs k h (by omega)⟩, rfl⟩
end Go.Proofs.Ytnghandgghfloaa.X
