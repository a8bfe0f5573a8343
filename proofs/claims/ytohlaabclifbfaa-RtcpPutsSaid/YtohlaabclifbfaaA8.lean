/-
  Packets are written: walks of my own.
-/
import Derived.Test.YtohlaabclifbfaaA7
import Derived.Test.YtohlaabclifbfaaX21
namespace Go.Proofs.Ytohlaabclifbfaa.X
open Go Go.RowKit
set_option linter.unusedVariables false
set_option linter.unusedSimpArgs false
theorem SlO.made {r k e : Nat} {v : Value} (hv : v.oneCell' = true) : SlO 1 e (.slice (some ⟨r, 0, none⟩) k k) k (List.replicate k v) [(r, .cells (List.replicate k v).toArray e (0, 0))] :=
  .inr ⟨r, (List.replicate k v).toArray, k, rfl, rfl, Nat.le_refl _, by simp, by simp⟩
/-- A number's last bytes. -/
def beK : Nat → Int → List Int
  | 0, _ => []
  | k + 1, n => beK k (n / 256) ++ [n % 256]
theorem beK_len : ∀ (k : Nat) (n : Int), (beK k n).length = k
  | 0, _ => rfl
  | k + 1, n => by show (beK k (n / 256) ++ [n % 256]).length = k + 1; rw [List.length_append, beK_len]; rfl
theorem beK_2 (n : Int) : beK 2 n = be2 n := rfl
theorem beK_4 (n : Int) : beK 4 n = be4 n := by
  show [n / 256 / 256 / 256 % 256, n / 256 / 256 % 256, n / 256 % 256, n % 256] = be4 n
  unfold be4
  simp only [List.cons.injEq, and_true]
  omega
set_option maxHeartbeats 2000000 in
theorem xf_bytes {W : World} {L : List Blk} (n : Int) (k : Nat) (h0 : 0 ≤ n) (h1 : n ≤ 18446744073709551615) (hk : k ≤ 8) : XF Try.prog W 60 #[.int .u64 n, .int .i64 k] L (fun v L' => ∃ p c l, v = .slice p k c ∧ SlO 1 5 (.slice p k c) k (ints .u8 (beK k n)) l ∧ L' = l ++ L) := by
  refine xf_enter (args := [_, _]) Try.func60 rfl Try.ntmps60 rfl ?_
  focus
    refine xc_seq ?_
    refine xc_region ?_
    refine xo_rd (rd_assign rfl) rfl ?_
    refine xo_nil ?_
    refine xq_seq ?_
    refine xc_seq ?_
    refine xc_region ?_
    refine xo_rd (rd_move rfl) rfl ?_
    refine xo_ef rfl (ef_makeSlice rfl rfl rfl (by omega) (by omega) (by omega) (by decide) fun r8 => ?_)
    refine xo_rd (rd_assign rfl) rfl ?_
    refine xo_nil ?_
    refine xq_seq ?_
    refine xc_seq ?_
    refine xc_seq ?_
    refine xc_region ?_
    refine xo_rd (rd_move rfl) rfl ?_
    refine xo_rd (rd_subn rfl rfl (by omega) (by omega)) rfl ?_
    refine xo_rd (rd_assign rfl) rfl ?_
    refine xo_nil ?_
    refine xq_seq ?_
    refine xc_block ?_
  refine xc_loopI (ι := Nat × Int × List Int × List Blk × Int) (fun s => s.1 ≤ k ∧ 0 ≤ s.2.1 ∧ s.2.1 ≤ 18446744073709551615 ∧ s.2.2.1.length = k - s.1 ∧ beK k n = beK s.1 s.2.1 ++ s.2.2.1 ∧ SlO 1 5 (.slice (some ⟨r8, 0, none⟩) k k) k (ints .u8 (List.replicate s.1 0 ++ s.2.2.1)) s.2.2.2.1 ∧ s.2.2.2.2 = (s.1 : Int) - 1) (fun s => s.1) (fun s => s.2.2.2.1 ++ L) (fun s => [(0, .int .u64 s.2.1), (5, .slice (some ⟨r8, 0, none⟩) k k), (6, .int .i64 s.2.2.2.2)]) (k, n, [], [(r8, .cells (List.replicate k (.int .u8 0)).toArray 5 (0, 0))], (k : Int) - 1) ⟨Nat.le_refl _, h0, h1, by simp, by simp, by dsimp only; rw [List.append_nil, show ints .u8 (List.replicate k 0) = List.replicate k (.int .u8 0) from by simp [ints]]; exact SlO.made rfl, rfl⟩ rfl (by repeat (first | exact keep_nil | refine keep_cons rfl ?_)) ?_
  rintro ⟨j, x, ts, l, t⟩ ⟨hj, hx0, hx1, htl, hbe, hO, ht⟩
  dsimp only at hj hx0 hx1 htl hbe hO ht ⊢
  cases j with
  | zero =>
    focus
      refine xc_seq ?_
      refine xc_seq ?_
      refine xc_region ?_
      refine xo_rd (rd_move rfl) rfl ?_
      refine xo_rd (rd_geq rfl rfl) rfl ?_
      refine xo_nil ?_
      refine xq_seq ?_
      refine xc_dec rfl (fun h1 => (by exfalso; omega)) (fun h1 => ?_)
      refine xc_exit ?_
      refine xq_then_exit ?_
      refine xq_then_exit ?_
      refine xq_block_hit ?_
      refine xq_seq ?_
      refine xc_seq ?_
      refine xc_region ?_
      refine xo_rd (rd_move rfl) rfl ?_
      refine xo_rd (rd_assign rfl) rfl ?_
      refine xo_nil ?_
      refine xq_seq ?_
      refine xc_ret ?_
    rw [show beK k n = ts from by rw [hbe]; rfl] at *
    exact xq_ret1 (.inl rfl) Try.results60 rfl ⟨_, _, l, rfl, hO, rfl⟩
  | succ j =>
    obtain rfl : t = (j : Int) := by omega
    focus
      refine xc_seq ?_
      refine xc_seq ?_
      refine xc_region ?_
      refine xo_rd (rd_move rfl) rfl ?_
      refine xo_rd (rd_geq rfl rfl) rfl ?_
      refine xo_nil ?_
      refine xq_seq ?_
      refine xc_condt rfl ?_
      refine xc_skip ?_
      refine xq_seq ?_
      refine xc_seq ?_
      refine xc_block ?_
      refine xc_seq ?_
      refine xc_region ?_
      refine xo_rd (rd_move rfl) rfl ?_
      refine xo_rd (rd_move rfl) rfl ?_
      refine xo_rd (rd_move rfl) rfl ?_
      refine xo_rd (rd_remn rfl rfl (by omega) (by omega)) rfl ?_
      refine xo_rd (rd_convn rfl (by omega) (by omega)) rfl ?_
      refine xo_rd (rd_indexAddr rfl rfl (by omega) (by omega)) rfl ?_
      refine xo_ef rfl (ef_storeElo [] _ (i := j) hO (by simp [ev, lk, pt]) rfl (by omega) rfl rfl rfl (by decide) rfl fun l' hO' => ?_)
      refine xo_nil ?_
      refine xq_seq ?_
      refine xc_region ?_
      refine xo_rd (rd_move rfl) rfl ?_
      refine xo_rd (rd_quon rfl rfl (by omega) (by omega) (by omega) (by omega)) rfl ?_
      refine xo_rd (rd_assign rfl) rfl ?_
      refine xo_nil ?_
      refine xq_block ?_
      refine xq_seq ?_
      refine xc_region ?_
      refine xo_rd (rd_move rfl) rfl ?_
      refine xo_rd (rd_subn rfl rfl (by omega) (by omega)) rfl ?_
      refine xo_rd (rd_assign rfl) rfl ?_
      refine xo_nil ?_
    refine xq_roundI (⟨j, x / 256, x % 256 :: ts, l', (j : Int) - 1⟩ : Nat × Int × List Int × List Blk × Int) ⟨by dsimp only; omega, by dsimp only; omega, by dsimp only; omega, by dsimp only [List.length_cons]; omega, ?_, ?_, rfl⟩ (by dsimp only; omega) rfl (by repeat (first | exact keep_nil | refine keep_cons rfl ?_))
    · dsimp only
      rw [hbe]
      show beK j (x / 256) ++ [x % 256] ++ ts = _
      rw [List.append_assoc]; rfl
    · dsimp only
      have e : (ints .u8 (List.replicate (j + 1) 0 ++ ts)).take (j * 1) ++ (Value.int .u8 (x % 256)).cells.toList ++ (ints .u8 (List.replicate (j + 1) 0 ++ ts)).drop ((j + 1) * 1) = ints .u8 (List.replicate j 0 ++ x % 256 :: ts) := by
        rw [Nat.mul_one, Nat.mul_one, ← X.ints_take, ← ints_drop]
        rw [List.take_append_of_le_length (by simp), List.drop_append_of_le_length (by simp)]
        simp [ints, Value.cells, List.take_replicate]
      rw [e] at hO'
      exact hO'
section
variable {P : Program} {W : World} {n : Nat} {L : List Blk} {E : List (Nat × Value)} {d : Option Nat} {t : TypeId} {pos : String} {after : Array Edge} {g : Option (Nat × Bool)}
theorem EF.subK {o : Oper} {K : Value → List Blk → Prop} (h : EF P W n L E o (fun v L' => ∃ L'', L''.Sublist L' ∧ K v L'')) : EF P W n L E o K := by
  refine ⟨fun a w ha hw => ?_⟩
  have := h.run a w ha hw
  revert this
  generalize (execOp a.eval o).run P w = r
  intro this
  unfold effUp at this ⊢
  split
  · obtain ⟨L', h1, L'', h2, h3⟩ := this; exact ⟨L'', h1.sub h2, h3⟩
  · obtain ⟨L', h1, L'', h2, h3⟩ := this; exact ⟨L'', h1.sub h2, h3⟩
  · exact Calls.mono this fun e w'' ⟨v, he, L', h1, L'', h2, h3⟩ => ⟨v, he, L'', h1.sub h2, h3⟩
  · simp_all
/-- An append; what lay ahead is dropped. -/
theorem ef_appendG (A R l : List Blk) {T e s bt : Nat} {z : Value} {x y : Operand} {v : Value} {m k c : Nat} {p : Option Addr} {xs news : List Value} {K : Value → List Blk → Prop} [hT : Sl P T e] [hI : Inf P e z s bt]
    (hx : ev E x = some v) (hy : ev E y = some (.slice p k c)) (hO : SlO s e v m xs l) (hL : L = A ++ (l ++ R)) (hsrc : Rs W L p news) (hk : news.length = k * s) (h1a : news.all (·.oneCell') = true) (hs : 0 < s)
    (hfit : (m + k) * bt ≤ 140737488355328) (hsm : m + k ≤ 9223372036854775807) (hK : ∀ q c' l', SlO s e (.slice q (m + k) c') (m + k) (xs ++ news) l' → m + k ≤ c' → K (.slice q (m + k) c') (l' ++ R)) :
    EF P W n L E ⟨d, .call ⟨.builtin .append, #[x, y], #[T, T]⟩, t, pos, after, g⟩ K :=
  EF.subK (ef_appendS A R l hx hy hO hL hsrc hk h1a hs hfit hsm fun q c' l' h1 h2 => ⟨_, List.sublist_append_right _ _, hK q c' l' h1 h2⟩)
end
theorem SlO.lit {r e k : Nat} {vs : List Value} (hk : vs.length = k) : SlO 1 e (.slice (some ⟨r, 0, none⟩) k k) k vs [(r, .cells vs.toArray e (0, 0))] :=
  .inr ⟨r, vs.toArray, k, rfl, rfl, Nat.le_refl _, by simp [hk], by simp [← hk]⟩
theorem or8_32 (x : Int) (h0 : 0 ≤ x) (h1 : x ≤ 255) (h : x / 32 % 2 = 0) : bits .or .u8 x 32 = x + 32 := u8_ind (p := fun x => x / 32 % 2 = 0 → bits .or .u8 x 32 = x + 32) (by decide +kernel) x h0 h1 h
theorem or8_128c (x : Int) (h0 : 0 ≤ x) (h1 : x ≤ 31) : bits .or .u8 128 x = 128 + x := u8_ind (p := fun x => x ≤ 31 → bits .or .u8 128 x = 128 + x) (by decide +kernel) x h0 (by omega) h1
theorem putP_len (q : Pc) (hg : q.Rg) : ((putP q).length : Int) = 4 + q.bd.length + q.pd := by
  unfold putP
  have := tailL_len q.pd hg.pd.1
  simp [be2]; omega
structure OuS where
  k : Nat
  n : Nat
  v : Value
  l : List Blk
end Go.Proofs.Ytohlaabclifbfaa.X
