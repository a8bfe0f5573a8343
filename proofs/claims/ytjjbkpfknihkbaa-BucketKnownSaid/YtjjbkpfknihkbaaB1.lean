/-
  The amounts of the bucket layer, by walks of my own.
-/
import Derived.Test.YtjjbkpfknihkbaaX6
import Derived.Test.YtjjbkpfknihkbaaX8
import Derived.Laws.Externs
import Derived.Lib.Mul64
import Derived.Shelf.Bits.Mul64
namespace Go.Proofs.Ytjjbkpfknihkbaa.X
open Go Go.RowKit
set_option linter.unusedVariables false

abbrev top : Int := 18446744073709551615
def plus (a b : Int) : Int := if a + b ≤ top then a + b else top
def times (a b : Int) : Int := if a * b ≤ top then a * b else top

theorem plus_nonneg {a b : Int} (ha : 0 ≤ a) (hb : 0 ≤ b) : 0 ≤ plus a b := by unfold plus top; split <;> omega
theorem plus_le (a b : Int) : plus a b ≤ top := by unfold plus top; split <;> omega
theorem times_nonneg {a b : Int} (ha : 0 ≤ a) (hb : 0 ≤ b) : 0 ≤ times a b := by
  have := Int.mul_nonneg ha hb
  unfold times top; split <;> omega
theorem times_le (a b : Int) : times a b ≤ top := by unfold times top; split <;> omega

theorem run_add (x y : Int) (hx : 0 ≤ x) (hy : 0 ≤ y) (w : World) : (callFunc 35 #[.int .u64 x, .int .u64 y, .int .u64 0]).run Try.prog w =
      .ok (.value (.tuple #[.int .u64 ((x + y) % 18446744073709551616), .int .u64 ((x + y) / 18446744073709551616)])) w := by
  rw [run_callFunc_extern Try.func35 (by kernel_rfl) (by kernel_rfl) (by kernel_rfl) (e := add64Entry) (by kernel_rfl), run_add64 x y 0 hx hy (by decide) (by decide)]
  simp [Result.andThen]

theorem xf_plus {W : World} {L : List Blk} (a b : Int) (ha : 0 ≤ a) (ha' : a ≤ top) (hb : 0 ≤ b) (hb' : b ≤ top) :
    XF Try.prog W 30 #[.int .u64 a, .int .u64 b] L (fun v L' => v = .int .u64 (plus a b) ∧ L' = L) := by
  refine xf_enter (args := [.int .u64 a, .int .u64 b]) Try.func30 rfl Try.ntmps30 rfl ?_
  refine xc_seq ?_
  refine xc_region ?_
  refine xo_rd (rd_assign rfl) rfl ?_
  refine xo_nil ?_
  refine xq_seq ?_
  refine xc_seq ?_
  refine xc_region ?_
  refine xo_rd (rd_move rfl) rfl ?_
  refine xo_rd (rd_move rfl) rfl ?_
  refine xo_rd (rd_callx (vs := [_, _, _]) (run_add a b ha hb) rfl) rfl ?_
  refine xo_rd (rd_move rfl) rfl ?_
  refine xo_rd (rd_extract rfl rfl) rfl ?_
  refine xo_rd (rd_extract rfl rfl) rfl ?_
  refine xo_rd (rd_assign rfl) rfl ?_
  refine xo_rd (rd_assign rfl) rfl ?_
  refine xo_nil ?_
  refine xq_seq ?_
  refine xc_seq ?_
  refine xc_seq ?_
  refine xc_region ?_
  refine xo_rd (rd_move rfl) rfl ?_
  refine xo_rd (rd_gtr rfl rfl) rfl ?_
  refine xo_nil ?_
  refine xq_seq ?_
  refine xc_dec rfl (fun h => ?_) (fun h => ?_)
  · refine xc_seq ?_
    refine xc_region ?_
    refine xo_rd (rd_assign rfl) rfl ?_
    refine xo_nil ?_
    refine xq_seq ?_
    refine xc_ret ?_
    refine xq_then_ret ?_
    refine xq_ret1 (.inl rfl) Try.results30 rfl ⟨?_, rfl⟩
    rw [plus, if_neg (by unfold top; omega)]
  · refine xc_skip ?_
    refine xq_seq ?_
    refine xc_seq ?_
    refine xc_region ?_
    refine xo_rd (rd_move rfl) rfl ?_
    refine xo_rd (rd_assign rfl) rfl ?_
    refine xo_nil ?_
    refine xq_seq ?_
    refine xc_ret ?_
    refine xq_ret1 (.inl rfl) Try.results30 rfl ⟨?_, rfl⟩
    rw [plus, if_pos (by unfold top; omega)]
    show Value.int _ _ = _
    congr 1; omega

theorem mul64_eq (a b : Nat) (hx : a < 18446744073709551616) (hy : b < 18446744073709551616) :
    IntKind.u64.wrap (IntKind.u64.wrap (IntKind.u64.wrap ((a : Int) / 4294967296 * ((b : Int) / 4294967296)) + IntKind.u64.wrap (IntKind.u64.wrap ((a : Int) / 4294967296 * bits .and .u64 b 4294967295) + IntKind.u64.wrap (bits .and .u64 a 4294967295 * bits .and .u64 b 4294967295) / 4294967296) / 4294967296) + IntKind.u64.wrap (bits .and .u64 (IntKind.u64.wrap (IntKind.u64.wrap ((a : Int) / 4294967296 * bits .and .u64 b 4294967295) + IntKind.u64.wrap (bits .and .u64 a 4294967295 * bits .and .u64 b 4294967295) / 4294967296)) 4294967295 + IntKind.u64.wrap (bits .and .u64 a 4294967295 * ((b : Int) / 4294967296))) / 4294967296) = (a : Int) * b / 18446744073709551616 := by
  obtain ⟨bd, bt, bw, hhi⟩ := Lib.mul64_hi a b hx hy
  have ba := Lib.half_mul_le (a := a / 4294967296) (b := b / 4294967296) (by omega) (by omega)
  have bb := Lib.half_mul_le (a := a / 4294967296) (b := b % 4294967296) (by omega) (by omega)
  have bc := Lib.half_mul_le (a := a % 4294967296) (b := b / 4294967296) (by omega) (by omega)
  have ba' : a / 4294967296 * (b / 4294967296) < 18446744073709551616 := by omega
  have bb' : a / 4294967296 * (b % 4294967296) < 18446744073709551616 := by omega
  have bc' : a % 4294967296 * (b / 4294967296) < 18446744073709551616 := by omega
  have bh1 : a / 4294967296 * (b / 4294967296) + (a / 4294967296 * (b % 4294967296) + a % 4294967296 * (b % 4294967296) / 4294967296) / 4294967296 < 18446744073709551616 := by omega
  have bh : a / 4294967296 * (b / 4294967296) + (a / 4294967296 * (b % 4294967296) + a % 4294967296 * (b % 4294967296) / 4294967296) / 4294967296 + ((a / 4294967296 * (b % 4294967296) + a % 4294967296 * (b % 4294967296) / 4294967296) % 4294967296 + a % 4294967296 * (b / 4294967296)) / 4294967296 < 18446744073709551616 := by omega
  simp only [Mul64.maskN a hx, Mul64.maskN b hy, Mul64.divN, Mul64.mulN, Mul64.addN, Mul64.wrapN _ bd, Mul64.wrapN _ bb', Mul64.wrapN _ bt, Mul64.maskN _ bt, Mul64.wrapN _ bc', Mul64.wrapN _ bw, Mul64.wrapN _ ba', Mul64.wrapN _ bh1, Mul64.wrapN _ bh]
  rw [hhi]; omega

theorem xf_mul64 {W : World} {L : List Blk} (a b : Int) (ha : 0 ≤ a) (ha' : a ≤ top) (hb : 0 ≤ b) (hb' : b ≤ top) :
    XF Try.prog W 34 #[.int .u64 a, .int .u64 b] L (fun v L' => v = .tuple #[.int .u64 (a * b / 18446744073709551616), .int .u64 (a * b % 18446744073709551616)] ∧ L' = L) := by
  unfold top at ha' hb'
  have key := mul64_eq a.toNat b.toNat (by omega) (by omega)
  rw [Int.toNat_of_nonneg ha, Int.toNat_of_nonneg hb] at key
  refine xf_enter (args := [.int .u64 a, .int .u64 b]) Try.func34 rfl Try.ntmps34 rfl ?_
  refine xc_seq ?_
  refine xc_region ?_
  refine xo_rd (rd_assign rfl) rfl ?_
  refine xo_rd (rd_assign rfl) rfl ?_
  refine xo_nil ?_
  refine xq_seq ?_
  refine xc_seq ?_
  refine xc_region ?_
  refine xo_rd (rd_move rfl) rfl ?_
  refine xo_rd (rd_and rfl rfl) rfl ?_
  refine xo_rd (rd_assign rfl) rfl ?_
  refine xo_nil ?_
  refine xq_seq ?_
  refine xc_seq ?_
  refine xc_region ?_
  refine xo_rd (rd_move rfl) rfl ?_
  refine xo_rd (rd_shr rfl rfl (by decide) (by decide)) rfl ?_
  refine xo_rd (rd_assign rfl) rfl ?_
  refine xo_nil ?_
  refine xq_seq ?_
  refine xc_seq ?_
  refine xc_region ?_
  refine xo_rd (rd_move rfl) rfl ?_
  refine xo_rd (rd_and rfl rfl) rfl ?_
  refine xo_rd (rd_assign rfl) rfl ?_
  refine xo_nil ?_
  refine xq_seq ?_
  refine xc_seq ?_
  refine xc_region ?_
  refine xo_rd (rd_move rfl) rfl ?_
  refine xo_rd (rd_shr rfl rfl (by decide) (by decide)) rfl ?_
  refine xo_rd (rd_assign rfl) rfl ?_
  refine xo_nil ?_
  refine xq_seq ?_
  refine xc_seq ?_
  refine xc_region ?_
  refine xo_rd (rd_move rfl) rfl ?_
  refine xo_rd (rd_move rfl) rfl ?_
  refine xo_rd (rd_mul rfl rfl) rfl ?_
  refine xo_rd (rd_assign rfl) rfl ?_
  refine xo_nil ?_
  refine xq_seq ?_
  refine xc_seq ?_
  refine xc_region ?_
  refine xo_rd (rd_move rfl) rfl ?_
  refine xo_rd (rd_move rfl) rfl ?_
  refine xo_rd (rd_mul rfl rfl) rfl ?_
  refine xo_rd (rd_move rfl) rfl ?_
  refine xo_rd (rd_shr rfl rfl (by decide) (by decide)) rfl ?_
  refine xo_rd (rd_add rfl rfl) rfl ?_
  refine xo_rd (rd_assign rfl) rfl ?_
  refine xo_nil ?_
  refine xq_seq ?_
  refine xc_seq ?_
  refine xc_region ?_
  refine xo_rd (rd_move rfl) rfl ?_
  refine xo_rd (rd_and rfl rfl) rfl ?_
  refine xo_rd (rd_assign rfl) rfl ?_
  refine xo_nil ?_
  refine xq_seq ?_
  refine xc_seq ?_
  refine xc_region ?_
  refine xo_rd (rd_move rfl) rfl ?_
  refine xo_rd (rd_shr rfl rfl (by decide) (by decide)) rfl ?_
  refine xo_rd (rd_assign rfl) rfl ?_
  refine xo_nil ?_
  refine xq_seq ?_
  refine xc_seq ?_
  refine xc_region ?_
  refine xo_rd (rd_move rfl) rfl ?_
  refine xo_rd (rd_move rfl) rfl ?_
  refine xo_rd (rd_move rfl) rfl ?_
  refine xo_rd (rd_mul rfl rfl) rfl ?_
  refine xo_rd (rd_add rfl rfl) rfl ?_
  refine xo_rd (rd_assign rfl) rfl ?_
  refine xo_nil ?_
  refine xq_seq ?_
  refine xc_seq ?_
  refine xc_region ?_
  refine xo_rd (rd_move rfl) rfl ?_
  refine xo_rd (rd_move rfl) rfl ?_
  refine xo_rd (rd_mul rfl rfl) rfl ?_
  refine xo_rd (rd_move rfl) rfl ?_
  refine xo_rd (rd_add rfl rfl) rfl ?_
  refine xo_rd (rd_move rfl) rfl ?_
  refine xo_rd (rd_shr rfl rfl (by decide) (by decide)) rfl ?_
  refine xo_rd (rd_add rfl rfl) rfl ?_
  refine xo_rd (rd_assign rfl) rfl ?_
  refine xo_nil ?_
  refine xq_seq ?_
  refine xc_seq ?_
  refine xc_region ?_
  refine xo_rd (rd_move rfl) rfl ?_
  refine xo_rd (rd_move rfl) rfl ?_
  refine xo_rd (rd_mul rfl rfl) rfl ?_
  refine xo_rd (rd_assign rfl) rfl ?_
  refine xo_nil ?_
  refine xq_seq ?_
  refine xc_ret ?_
  refine xq_ret2 (.inl rfl) Try.results34 rfl rfl ⟨?_, rfl⟩
  rw [← key, ← wrap_u64]
  rfl

theorem xf_times {W : World} {L : List Blk} (a b : Int) (ha : 0 ≤ a) (ha' : a ≤ top) (hb : 0 ≤ b) (hb' : b ≤ top) :
    XF Try.prog W 29 #[.int .u64 a, .int .u64 b] L (fun v L' => v = .int .u64 (times a b) ∧ L' = L) := by
  refine xf_enter (args := [.int .u64 a, .int .u64 b]) Try.func29 rfl Try.ntmps29 rfl ?_
  refine xc_seq ?_
  refine xc_region ?_
  refine xo_rd (rd_assign rfl) rfl ?_
  refine xo_nil ?_
  refine xq_seq ?_
  refine xc_seq ?_
  refine xc_region ?_
  refine xo_rd (rd_move rfl) rfl ?_
  refine xo_rd (rd_move rfl) rfl ?_
  refine xo_ef rfl (ef_call rfl ((xf_mul64 a b ha ha' hb hb').mono ?_))
  rintro v L' ⟨rfl, rfl⟩
  refine xo_rd (rd_move rfl) rfl ?_
  refine xo_rd (rd_extract rfl rfl) rfl ?_
  refine xo_rd (rd_extract rfl rfl) rfl ?_
  refine xo_rd (rd_assign rfl) rfl ?_
  refine xo_rd (rd_assign rfl) rfl ?_
  refine xo_nil ?_
  refine xq_seq ?_
  refine xc_seq ?_
  refine xc_seq ?_
  refine xc_region ?_
  refine xo_rd (rd_move rfl) rfl ?_
  refine xo_rd (rd_gtr rfl rfl) rfl ?_
  refine xo_nil ?_
  refine xq_seq ?_
  have hab : 0 ≤ a * b := Int.mul_nonneg ha hb
  have hT : times a b = if a * b ≤ top then a * b else top := rfl
  generalize a * b = m at *
  refine xc_dec rfl (fun h => ?_) (fun h => ?_)
  · refine xc_seq ?_
    refine xc_region ?_
    refine xo_rd (rd_assign rfl) rfl ?_
    refine xo_nil ?_
    refine xq_seq ?_
    refine xc_ret ?_
    refine xq_then_ret ?_
    refine xq_ret1 (.inl rfl) Try.results29 rfl ⟨?_, rfl⟩
    rw [hT, if_neg (by unfold top; omega)]
  · refine xc_skip ?_
    refine xq_seq ?_
    refine xc_seq ?_
    refine xc_region ?_
    refine xo_rd (rd_move rfl) rfl ?_
    refine xo_rd (rd_assign rfl) rfl ?_
    refine xo_nil ?_
    refine xq_seq ?_
    refine xc_ret ?_
    refine xq_ret1 (.inl rfl) Try.results29 rfl ⟨?_, rfl⟩
    rw [hT, if_pos (by unfold top; omega)]
    show Value.int _ _ = _
    congr 1; omega

theorem xf_does {W : World} {L : List Blk} (f : Nat) (G : Int → Int → Int) (a b : Int) (bb : Nat) (o : Nat)
    (hf : ∀ L, XF Try.prog W f #[.int .u64 a, .int .u64 b] L (fun v L' => v = .int .u64 (G a b) ∧ L' = L)) (hc : Cl W L bb o (.int .u64 b)) [hC : Cf Try.prog f] :
    XF Try.prog W 28 #[.func (.func f) #[] #[], .int .u64 a, .slice (some ⟨bb, o, none⟩) 1 1] L (fun v L' => v = .int .u64 (G a b) ∧ L' = L) := by
  refine xf_enter (args := [_, _, _]) Try.func28 rfl Try.ntmps28 rfl ?_
  refine xc_seq ?_
  refine xc_region ?_
  refine xo_rd (rd_assign rfl) rfl ?_
  refine xo_nil ?_
  refine xq_seq ?_
  refine xc_seq ?_
  refine xc_seq ?_
  refine xc_region ?_
  refine xo_rd (rd_move rfl) rfl ?_
  refine xo_rd (rd_len rfl) rfl ?_
  refine xo_rd (rd_move rfl) rfl ?_
  refine xo_nil ?_
  refine xq_seq ?_
  refine xc_block ?_
  refine xc_loopI (ι := Nat × Int) (fun s => s.1 ≤ 1 ∧ s.2 = if s.1 = 0 then a else G a b) (fun s => 1 - s.1) (fun s => L) (fun s => [(0, .func (.func f) #[] #[]), (1, .int .u64 s.2), (9, .slice (some ⟨bb, o, none⟩) 1 1), (10, .int .i64 (1 : Nat)), (11, .int .i64 s.1)]) (0, a) ⟨Nat.zero_le _, rfl⟩ rfl (keep_cons rfl (keep_cons rfl (keep_cons rfl (keep_cons rfl (keep_cons rfl keep_nil))))) ?_
  rintro ⟨k, x⟩ ⟨hk, hx⟩
  dsimp only at hk hx ⊢
  refine xc_seq ?_
  refine xc_region ?_
  refine xo_rd (rd_lss rfl rfl) rfl ?_
  refine xo_nil ?_
  refine xq_seq ?_
  refine xc_seq ?_
  refine xc_dec rfl (fun h => ?_) (fun h => ?_)
  · obtain rfl : k = 0 := by omega
    rw [if_pos rfl] at hx
    subst hx
    refine xc_skip ?_
    refine xq_seq ?_
    refine xc_seq ?_
    refine xc_block ?_
    refine xc_seq ?_
    refine xc_region ?_
    refine xo_rd (rd_indexAddr rfl rfl (by omega) (by omega)) rfl ?_
    refine xo_rd (rd_load1 rfl hc) rfl ?_
    refine xo_rd (rd_assign rfl) rfl ?_
    refine xo_nil ?_
    refine xq_seq ?_
    refine xc_region ?_
    refine xo_rd (rd_move rfl) rfl ?_
    refine xo_rd (rd_move rfl) rfl ?_
    refine xo_rd (rd_move rfl) rfl ?_
    refine xo_ef rfl (ef_callv (vs := [_, _]) (first := []) (cap := []) rfl rfl ((hf _).mono ?_))
    rintro v L' ⟨rfl, rfl⟩
    refine xo_rd (rd_assign rfl) rfl ?_
    refine xo_nil ?_
    refine xq_block ?_
    refine xq_seq ?_
    refine xc_region ?_
    refine xo_rd (rd_addn rfl rfl (by omega) (by omega)) rfl ?_
    refine xo_rd (rd_move rfl) rfl ?_
    refine xo_nil ?_
    exact xq_roundI (1, G x b) ⟨Nat.le_refl _, rfl⟩ (by dsimp only; omega) rfl (keep_cons rfl (keep_cons rfl (keep_cons rfl (keep_cons rfl (keep_cons rfl keep_nil)))))
  · obtain rfl : k = 1 := by omega
    rw [if_neg (by decide)] at hx
    subst hx
    refine xc_exit ?_
    refine xq_then_exit ?_
    refine xq_then_exit ?_
    refine xq_block_hit ?_
    refine xq_seq ?_
    refine xc_seq ?_
    refine xc_region ?_
    refine xo_rd (rd_move rfl) rfl ?_
    refine xo_rd (rd_assign rfl) rfl ?_
    refine xo_nil ?_
    refine xq_seq ?_
    refine xc_ret ?_
    refine xq_ret1 (.inl rfl) Try.results28 rfl ⟨rfl, rfl⟩

theorem xf_most {W : World} {L : List Blk} (r b t : Int) (hr : 0 ≤ r) (hr' : r ≤ top) (hb : 0 ≤ b) (hb' : b ≤ top) (ht : 0 ≤ t) (ht' : t ≤ top) :
    XF Try.prog W 15 #[.int .u64 r, .int .u64 b, .int .u64 t] L (fun v L' => v = .int .u64 (plus b (times r t)) ∧ L' = L) := by
  refine xf_enter (args := [_, _, _]) Try.func15 rfl Try.ntmps15 rfl ?_
  refine xc_seq ?_
  refine xc_region ?_
  refine xo_rd (rd_assign rfl) rfl ?_
  refine xo_nil ?_
  refine xq_seq ?_
  refine xc_seq ?_
  refine xc_region ?_
  refine xo_rd (rd_move rfl) rfl ?_
  refine xo_rd (rd_move rfl) rfl ?_
  refine xo_rd (rd_move rfl) rfl ?_
  refine xo_ef rfl (ef_slice1 rfl rfl rfl fun r2 => ?_)
  skip
  refine xo_ef rfl (ef_call rfl ((xf_does 29 times r t r2 0 (fun L => xf_times r t hr hr' ht ht') (Cl.o0 (vs := [_]) rfl)).mono ?_))
  rintro v L' ⟨rfl, rfl⟩
  skip
  refine xo_tail ?_
  refine xo_ef rfl (ef_slice1 rfl rfl rfl fun r3 => ?_)
  skip
  refine xo_ef rfl (ef_call rfl ((xf_does 30 plus b (times r t) r3 0 (fun L => xf_plus b _ hb hb' (times_nonneg hr ht) (times_le _ _)) (Cl.o0 (vs := [_]) rfl)).mono ?_))
  rintro v L' ⟨rfl, rfl⟩
  refine xo_rd (rd_assign rfl) rfl ?_
  refine xo_nil ?_
  refine xq_seq ?_
  refine xc_ret ?_
  refine xq_tail ?_
  refine xq_ret1 (.inl rfl) Try.results15 rfl ⟨rfl, rfl⟩

theorem xf_top {W : World} {L : List Blk} : XF Try.prog W 14 #[] L (fun v L' => v = .int .u64 top ∧ L' = L) := by
  refine xf_enter (args := []) Try.func14 rfl Try.ntmps14 rfl ?_
  refine xc_seq ?_
  refine xc_region ?_
  refine xo_rd (rd_assign rfl) rfl ?_
  refine xo_nil ?_
  refine xq_seq ?_
  refine xc_seq ?_
  refine xc_region ?_
  refine xo_rd (rd_assign rfl) rfl ?_
  refine xo_nil ?_
  refine xq_seq ?_
  refine xc_ret ?_
  refine xq_ret1 (.inl rfl) Try.results14 rfl ⟨rfl, rfl⟩
end Go.Proofs.Ytjjbkpfknihkbaa.X
