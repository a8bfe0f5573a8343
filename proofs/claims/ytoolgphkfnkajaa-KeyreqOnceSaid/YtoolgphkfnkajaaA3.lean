/-
  Chapter 23: few numbers sorted by the library's sort: walks of my own.
-/
import Derived.Test.YtoolgphkfnkajaaA2
namespace Go.Proofs.Ytoolgphkfnkajaa.X
open Go Go.RowKit
set_option linter.unusedVariables false
set_option linter.unusedSimpArgs false
theorem at256 {s : ByteArray} {j : Nat} (h : s.size = 256) (hj : j < 256) : s[j]? = some (s[j]'(h ▸ hj)) := getElem?_pos s j (h ▸ hj)
set_option maxRecDepth 8000 in
theorem xf_len64 {W : World} {L : List Blk} (x : Nat) (hx : x ≤ 12) : XF Try.prog W 58 #[.int .u64 x] L (fun v L' => ∃ k, v = .int .i64 k ∧ L' = L) := by
  refine xf_enter (args := [_]) Try.func58 rfl Try.ntmps58 rfl ?_
  focus
    refine xc_seq ?_
    refine xc_region ?_
    refine xo_rd (rd_assign rfl) rfl ?_
    refine xo_nil ?_
    refine xq_seq ?_
    refine xc_seq ?_
    refine xc_seq ?_
    refine xc_region ?_
    refine xo_rd (rd_move rfl) rfl ?_
    refine xo_rd (rd_geq rfl rfl) rfl ?_
    refine xo_nil ?_
    refine xq_seq ?_
    refine xc_dec rfl (fun h1 => (by exfalso; omega)) (fun h1 => ?_)
    refine xc_skip ?_
    refine xq_seq ?_
    refine xc_seq ?_
    refine xc_seq ?_
    refine xc_region ?_
    refine xo_rd (rd_move rfl) rfl ?_
    refine xo_rd (rd_geq rfl rfl) rfl ?_
    refine xo_nil ?_
    refine xq_seq ?_
    refine xc_dec rfl (fun h2 => (by exfalso; omega)) (fun h2 => ?_)
    refine xc_skip ?_
    refine xq_seq ?_
    refine xc_seq ?_
    refine xc_seq ?_
    refine xc_region ?_
    refine xo_rd (rd_move rfl) rfl ?_
    refine xo_rd (rd_geq rfl rfl) rfl ?_
    refine xo_nil ?_
    refine xq_seq ?_
    refine xc_dec rfl (fun h3 => (by exfalso; omega)) (fun h3 => ?_)
    refine xc_skip ?_
    refine xq_seq ?_
    refine xc_seq ?_
    refine xc_region ?_
    refine xo_rd (rd_move rfl) rfl ?_
    refine xo_rd (rd_move rfl) rfl ?_
    refine xo_rd (rd_convn rfl (by omega) (by omega)) rfl ?_
  refine xo_rd (rd_indexStr rfl rfl (by omega) (at256 (by kernel_rfl) (by omega))) rfl ?_
  focus
    refine xo_rd (rd_conv rfl) rfl ?_
    refine xo_rd (rd_add rfl rfl) rfl ?_
    refine xo_rd (rd_assign rfl) rfl ?_
    refine xo_nil ?_
    refine xq_seq ?_
    refine xc_ret ?_
  exact xq_ret1 (.inl rfl) Try.results58 rfl ⟨_, rfl, rfl⟩
theorem xf_len {W : World} {L : List Blk} (x : Nat) (hx : x ≤ 12) : XF Try.prog W 47 #[.int .u64 x] L (fun v L' => ∃ k, v = .int .i64 k ∧ L' = L) := by
  refine xf_enter (args := [_]) Try.func47 rfl Try.ntmps47 rfl ?_
  focus
    refine xc_seq ?_
    refine xc_region ?_
    refine xo_rd (rd_assign rfl) rfl ?_
    refine xo_nil ?_
    refine xq_seq ?_
    refine xc_seq ?_
    refine xc_condf rfl ?_
    refine xc_skip ?_
    refine xq_seq ?_
    refine xc_seq ?_
    refine xc_region ?_
    refine xo_rd (rd_move rfl) rfl ?_
    refine xo_ef rfl (ef_call rfl (XF.mono (xf_len64 x hx) ?_))
    rintro v L' ⟨k, rfl, rfl⟩
    refine xo_rd (rd_assign rfl) rfl ?_
    refine xo_nil ?_
    refine xq_seq ?_
    refine xc_ret ?_
  refine xq_ret1 (.inl rfl) Try.results47 rfl ?_
  exact ⟨k, rfl, rfl⟩
theorem xf_pdq {W : World} {R : List Blk} (p : Option Addr) (n c : Nat) (lim : Int) (xs : List Int) (l : List Blk) (hx : xs.length = n) (hO : SlQ 1 30 (.slice p n c) n (ints .u32 xs) l) (hn : n ≤ 12) :
    XF Try.prog W 46 #[.slice p n c, .int .i64 0, .int .i64 n, .int .i64 lim] (l ++ R) (fun v L' => v = .tuple #[] ∧ ∃ ys l', SlQ 1 30 (.slice p n c) n (ints .u32 ys) l' ∧ ys.Perm xs ∧ SrtT ys n ∧ L' = l' ++ R) := by
  refine xf_enter (args := [_, _, _, _]) Try.func46 rfl Try.ntmps46 rfl ?_
  focus
    refine xc_seq ?_
    refine xc_region ?_
    refine xo_rd (rd_assign rfl) rfl ?_
    refine xo_nil ?_
    refine xq_seq ?_
    refine xc_seq ?_
    refine xc_region ?_
    refine xo_rd (rd_assign rfl) rfl ?_
    refine xo_nil ?_
    refine xq_seq ?_
    refine xc_block ?_
  refine xc_loopI (ι := Unit) (fun _ => True) (fun _ => 0) (fun _ => l ++ R) (fun _ => [(0, .slice p n c), (1, .int .i64 0), (2, .int .i64 n), (3, .int .i64 lim)]) () trivial rfl (by repeat (first | exact keep_nil | refine keep_cons rfl ?_)) ?_
  rintro ⟨⟩ _
  focus
    refine xc_block ?_
    refine xc_seq ?_
    refine xc_region ?_
    refine xo_rd (rd_move rfl) rfl ?_
    refine xo_rd (rd_move rfl) rfl ?_
    refine xo_rd (rd_subn rfl rfl (by omega) (by omega)) rfl ?_
    refine xo_rd (rd_assign rfl) rfl ?_
    refine xo_nil ?_
    refine xq_seq ?_
    refine xc_seq ?_
    refine xc_seq ?_
    refine xc_region ?_
    refine xo_rd (rd_move rfl) rfl ?_
    refine xo_rd (rd_leq rfl rfl) rfl ?_
    refine xo_nil ?_
    refine xq_seq ?_
    refine xc_dec rfl (fun h1 => ?_) (fun h1 => (by exfalso; omega))
    refine xc_seq ?_
    refine xc_region ?_
    refine xo_rd (rd_move rfl) rfl ?_
    refine xo_rd (rd_move rfl) rfl ?_
    refine xo_rd (rd_move rfl) rfl ?_
    refine xo_ef rfl (ef_call rfl (XF.mono (xf_insertion p n c xs l hx hO (by omega)) ?_))
    rintro v L' ⟨rfl, ys, l2, hO2, hpm, hsr, rfl⟩
    refine xo_nil ?_
    refine xq_seq ?_
    refine xc_ret ?_
    refine xq_then_ret ?_
    refine xq_block_ret ?_
    refine xq_then_ret ?_
    refine xq_block_ret ?_
  exact xq_ret0 (.inl rfl) Try.results46 ⟨rfl, ys, l2, hO2, hpm, hsr, rfl⟩
theorem xf_sort {W : World} {R : List Blk} (p : Option Addr) (n c : Nat) (xs : List Int) (l : List Blk) (hx : xs.length = n) (hO : SlQ 1 30 (.slice p n c) n (ints .u32 xs) l) (hn : n ≤ 12) :
    XF Try.prog W 40 #[.slice p n c] (l ++ R) (fun v L' => v = .tuple #[] ∧ ∃ ys l', SlQ 1 30 (.slice p n c) n (ints .u32 ys) l' ∧ ys.Perm xs ∧ SrtT ys n ∧ L' = l' ++ R) := by
  refine xf_enter (args := [_]) Try.func40 rfl Try.ntmps40 rfl ?_
  focus
    refine xc_seq ?_
    refine xc_region ?_
    refine xo_rd (rd_move rfl) rfl ?_
    refine xo_rd (rd_len rfl) rfl ?_
    refine xo_rd (rd_assign rfl) rfl ?_
    refine xo_nil ?_
    refine xq_seq ?_
    refine xc_region ?_
    refine xo_rd (rd_move rfl) rfl ?_
    refine xo_rd (rd_move rfl) rfl ?_
    refine xo_rd (rd_move rfl) rfl ?_
    refine xo_rd (rd_convn rfl (by omega) (by omega)) rfl ?_
    refine xo_ef rfl (ef_call rfl (XF.mono (xf_len n hn) ?_))
    rintro v L' ⟨k, rfl, rfl⟩
    refine xo_ef rfl (ef_call rfl (XF.mono (xf_pdq p n c k xs l hx hO hn) ?_))
    rintro v L' ⟨rfl, ys, l2, hO2, hpm, hsr, rfl⟩
    refine xo_nil ?_
  exact xq_ret0 (.inr rfl) Try.results40 ⟨rfl, ys, l2, hO2, hpm, hsr, rfl⟩
/-- A rising row is told by what is on it. -/
theorem srt_eq : ∀ {xs ks : List Int}, xs.Perm ks → SrtT xs xs.length → ks.Pairwise (· < ·) → xs = ks
  | [], ks, hp, _, _ => by simpa using hp.symm
  | x :: xs, [], hp, _, _ => by simp at hp
  | x :: xs, k :: ks, hp, hs, hk => by
    have hk2 := List.pairwise_cons.1 hk
    have hxk : x = k := by
      have h1 : x ∈ k :: ks := hp.subset List.mem_cons_self
      have h2 : k ∈ x :: xs := hp.symm.subset List.mem_cons_self
      rcases List.mem_cons.1 h1 with h1 | h1
      · exact h1
      rcases List.mem_cons.1 h2 with h2 | h2
      · exact h2.symm
      have h3 := hk2.1 x h1
      obtain ⟨i, hi, he⟩ := List.mem_iff_getElem.1 h2
      have h4 := hs 0 (i + 1) (by omega) (by rw [List.length_cons]; omega)
      have h5 : (x :: xs).getD (i + 1) 0 = k := by
        rw [List.getD_eq_getElem?_getD, List.getElem?_cons_succ, List.getElem?_eq_getElem hi, he]; rfl
      rw [h5] at h4
      have h6 : (x :: xs).getD 0 0 = x := rfl
      rw [h6] at h4
      omega
    subst hxk
    have h7 : xs.Perm ks := List.Perm.cons_inv hp
    rw [srt_eq h7 (fun a b h1 h2 => by
      have := hs (a + 1) (b + 1) (by omega) (by rw [List.length_cons]; omega)
      simpa using this) hk2.2]
end Go.Proofs.Ytoolgphkfnkajaa.X
