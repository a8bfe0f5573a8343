/-
  Numbers in bytes; the reference writes a packet: walks of my own.
-/
import Derived.Test.YtpcmnbagalhjiaaA8
namespace Go.Proofs.Ytpcmnbagalhjiaa.X
open Go Go.RowKit
set_option linter.unusedVariables false
set_option linter.unusedSimpArgs false
section
variable {P : Program} {W : World} {n : Nat} {L : List Blk} {E : List (Nat × Value)} {d : Option Nat} {t : TypeId} {pos : String} {after : Array Edge} {g : Option (Nat × Bool)}
/-- The whole of an array, as a slice. -/
theorem rd_slArr {T e len b m : Nat} {x : Operand} [hT : Ar P T len e] [hS : Ts P e m] (hx : ev E x = some (.pointer (some ⟨b, 0, none⟩))) (hl : len ≠ 0) :
    RD P W n L E ⟨d, .slice T x none none none, t, pos, after, g⟩ (.slice (some ⟨b, 0, none⟩) len len) := .mk fun a w ha hw => by
  have hB := hS.h w
  simp [execOp, ha.eval hx, Instr.sliceAt, Instr.sliceBounds, Instr.sureAddr, run_underlying hT.h, hB, hl, add_zero']
end
theorem SlO.made {r k e : Nat} {v : Value} (hv : v.oneCell' = true) : SlO 1 e (.slice (some ⟨r, 0, none⟩) k k) k (List.replicate k v) [(r, .cells (List.replicate k v).toArray e (0, 0))] :=
  .inr ⟨r, (List.replicate k v).toArray, k, rfl, rfl, Nat.le_refl _, by simp, by simp⟩
/-- A number's last bytes. -/
def beK : Nat → Int → List Int
  | 0, _ => []
  | k + 1, n => beK k (n / 256) ++ [n % 256]
theorem beK_len : ∀ (k : Nat) (n : Int), (beK k n).length = k
  | 0, _ => rfl
  | k + 1, n => by show (beK k (n / 256) ++ [n % 256]).length = k + 1; rw [List.length_append, beK_len]; rfl
theorem beK_2 (n : Int) : beK 2 n = be2 n := rfl
theorem beK_4 (n : Int) : beK 4 n = be4 n := by
  show [n / 256 / 256 / 256 % 256, n / 256 / 256 % 256, n / 256 % 256, n % 256] = be4 n
  unfold be4
  simp only [List.cons.injEq, and_true]
  omega
set_option maxHeartbeats 2000000 in
theorem xf_bytes {W : World} {L : List Blk} (n : Int) (k : Nat) (h0 : 0 ≤ n) (h1 : n ≤ 18446744073709551615) (hk : k ≤ 8) : XF Try.prog W 33 #[.int .u64 n, .int .i64 k] L (fun v L' => ∃ p c l, v = .slice p k c ∧ SlO 1 5 (.slice p k c) k (ints .u8 (beK k n)) l ∧ L' = l ++ L) := by
  refine xf_enter (args := [_, _]) Try.func33 rfl Try.ntmps33 rfl ?_
  focus
    refine xc_seq ?_
    refine xc_region ?_
    refine xo_rd (rd_assign rfl) rfl ?_
    refine xo_nil ?_
    refine xq_seq ?_
    refine xc_seq ?_
    refine xc_region ?_
    refine xo_rd (rd_move rfl) rfl ?_
    refine xo_ef rfl (ef_makeSlice rfl rfl rfl (by omega) (by omega) (by omega) (by decide) fun r8 => ?_)
    refine xo_rd (rd_assign rfl) rfl ?_
    refine xo_nil ?_
    refine xq_seq ?_
    refine xc_seq ?_
    refine xc_seq ?_
    refine xc_region ?_
    refine xo_rd (rd_move rfl) rfl ?_
    refine xo_rd (rd_subn rfl rfl (by omega) (by omega)) rfl ?_
    refine xo_rd (rd_assign rfl) rfl ?_
    refine xo_nil ?_
    refine xq_seq ?_
    refine xc_block ?_
  refine xc_loopI (ι := Nat × Int × List Int × List Blk × Int) (fun s => s.1 ≤ k ∧ 0 ≤ s.2.1 ∧ s.2.1 ≤ 18446744073709551615 ∧ s.2.2.1.length = k - s.1 ∧ beK k n = beK s.1 s.2.1 ++ s.2.2.1 ∧ SlO 1 5 (.slice (some ⟨r8, 0, none⟩) k k) k (ints .u8 (List.replicate s.1 0 ++ s.2.2.1)) s.2.2.2.1 ∧ s.2.2.2.2 = (s.1 : Int) - 1) (fun s => s.1) (fun s => s.2.2.2.1 ++ L) (fun s => [(0, .int .u64 s.2.1), (5, .slice (some ⟨r8, 0, none⟩) k k), (6, .int .i64 s.2.2.2.2)]) (k, n, [], [(r8, .cells (List.replicate k (.int .u8 0)).toArray 5 (0, 0))], (k : Int) - 1) ⟨Nat.le_refl _, h0, h1, by simp, by simp, by dsimp only; rw [List.append_nil, show ints .u8 (List.replicate k 0) = List.replicate k (.int .u8 0) from by simp [ints]]; exact SlO.made rfl, rfl⟩ rfl (by repeat (first | exact keep_nil | refine keep_cons rfl ?_)) ?_
  rintro ⟨j, x, ts, l, t⟩ ⟨hj, hx0, hx1, htl, hbe, hO, ht⟩
  dsimp only at hj hx0 hx1 htl hbe hO ht ⊢
  cases j with
  | zero =>
    focus
      refine xc_seq ?_
      refine xc_seq ?_
      refine xc_region ?_
      refine xo_rd (rd_move rfl) rfl ?_
      refine xo_rd (rd_geq rfl rfl) rfl ?_
      refine xo_nil ?_
      refine xq_seq ?_
      refine xc_dec rfl (fun h1 => (by exfalso; omega)) (fun h1 => ?_)
      refine xc_exit ?_
      refine xq_then_exit ?_
      refine xq_then_exit ?_
      refine xq_block_hit ?_
      refine xq_seq ?_
      refine xc_seq ?_
      refine xc_region ?_
      refine xo_rd (rd_move rfl) rfl ?_
      refine xo_rd (rd_assign rfl) rfl ?_
      refine xo_nil ?_
      refine xq_seq ?_
      refine xc_ret ?_
    rw [show beK k n = ts from by rw [hbe]; rfl] at *
    exact xq_ret1 (.inl rfl) Try.results33 rfl ⟨_, _, l, rfl, hO, rfl⟩
  | succ j =>
    obtain rfl : t = (j : Int) := by omega
    focus
      refine xc_seq ?_
      refine xc_seq ?_
      refine xc_region ?_
      refine xo_rd (rd_move rfl) rfl ?_
      refine xo_rd (rd_geq rfl rfl) rfl ?_
      refine xo_nil ?_
      refine xq_seq ?_
      refine xc_condt rfl ?_
      refine xc_skip ?_
      refine xq_seq ?_
      refine xc_seq ?_
      refine xc_block ?_
      refine xc_seq ?_
      refine xc_region ?_
      refine xo_rd (rd_move rfl) rfl ?_
      refine xo_rd (rd_move rfl) rfl ?_
      refine xo_rd (rd_move rfl) rfl ?_
      refine xo_rd (rd_remn rfl rfl (by omega) (by omega)) rfl ?_
      refine xo_rd (rd_convn rfl (by omega) (by omega)) rfl ?_
      refine xo_rd (rd_indexAddr rfl rfl (by omega) (by omega)) rfl ?_
      refine xo_ef rfl (ef_storeElo [] _ (i := j) hO (by simp [ev, lk, pt]) rfl (by omega) rfl rfl rfl (by decide) rfl fun l' hO' => ?_)
      refine xo_nil ?_
      refine xq_seq ?_
      refine xc_region ?_
      refine xo_rd (rd_move rfl) rfl ?_
      refine xo_rd (rd_quon rfl rfl (by omega) (by omega) (by omega) (by omega)) rfl ?_
      refine xo_rd (rd_assign rfl) rfl ?_
      refine xo_nil ?_
      refine xq_block ?_
      refine xq_seq ?_
      refine xc_region ?_
      refine xo_rd (rd_move rfl) rfl ?_
      refine xo_rd (rd_subn rfl rfl (by omega) (by omega)) rfl ?_
      refine xo_rd (rd_assign rfl) rfl ?_
      refine xo_nil ?_
    refine xq_roundI (⟨j, x / 256, x % 256 :: ts, l', (j : Int) - 1⟩ : Nat × Int × List Int × List Blk × Int) ⟨by dsimp only; omega, by dsimp only; omega, by dsimp only; omega, by dsimp only [List.length_cons]; omega, ?_, ?_, rfl⟩ (by dsimp only; omega) rfl (by repeat (first | exact keep_nil | refine keep_cons rfl ?_))
    · dsimp only
      rw [hbe]
      show beK j (x / 256) ++ [x % 256] ++ ts = _
      rw [List.append_assoc]; rfl
    · dsimp only
      have e : (ints .u8 (List.replicate (j + 1) 0 ++ ts)).take (j * 1) ++ (Value.int .u8 (x % 256)).cells.toList ++ (ints .u8 (List.replicate (j + 1) 0 ++ ts)).drop ((j + 1) * 1) = ints .u8 (List.replicate j 0 ++ x % 256 :: ts) := by
        rw [Nat.mul_one, Nat.mul_one, ← X.ints_take, ← ints_drop]
        rw [List.take_append_of_le_length (by simp), List.drop_append_of_le_length (by simp)]
        simp [ints, Value.cells, List.take_replicate]
      rw [e] at hO'
      exact hO'
end Go.Proofs.Ytpcmnbagalhjiaa.X
