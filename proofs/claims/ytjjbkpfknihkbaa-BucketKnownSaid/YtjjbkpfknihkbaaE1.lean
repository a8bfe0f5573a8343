/-
  BucketKnown: the walk of the law.
-/
import Derived.Test.YtjjbkpfknihkbaaC2
import Derived.Test.YtjjbkpfknihkbaaD2
import Derived.Test.YtjjbkpfknihkbaaB6
import Derived.Test.YtjjbkpfknihkbaaB8
import Derived.Test.YtjjbkpfknihkbaaB9
import Derived.Test.YtjjbkpfknihkbaaX10
import Derived.Test.YtjjbkpfknihkbaaX12
namespace Go.Proofs.Ytjjbkpfknihkbaa.X
open Go Go.RowKit
set_option linter.unusedVariables false
def vals : List Int := [0, 1, 2, 10, 25, 4294967296, 9223372036854775808, 18446744073709551614, 18446744073709551615]
def V (z : Int) : Int := vals.getD z.toNat 0
theorem V_rng (z : Int) (h0 : 0 ≤ z) (h1 : z < 9) : 0 ≤ V z ∧ V z ≤ top := by
  obtain ⟨n, rfl⟩ := Int.eq_ofNat_of_zero_le h0
  have : n < 9 := by omega
  have key : ∀ n : Nat, n < 9 → 0 ≤ V n ∧ V n ≤ top := by decide
  exact key n this
theorem V_get (z : Int) (h0 : 0 ≤ z) (h1 : z < 9) : (vals.map (Value.int .u64))[z.toNat]? = some (.int .u64 (V z)) := by
  obtain ⟨n, rfl⟩ := Int.eq_ofNat_of_zero_le h0
  have h9 : n < vals.length := by show n < 9; omega
  simp [V, List.getD_eq_getElem?_getD, List.getElem?_eq_getElem h9]
structure Rn where
  i : Nat
  k : Int
  xs : List Act
  v : Value
  l : List Blk
set_option maxHeartbeats 4000000 in
theorem xf_BucketKnown {W : World} : XF Try.prog W 8 #[] [] (fun v L' => v = .bool true) := by
  refine xf_enter (args := []) Try.func8 rfl Try.ntmps8 rfl ?_
  focus
    refine xc_seq ?_
    refine xc_region ?_
    refine xo_rd (rd_assign rfl) rfl ?_
    refine xo_nil ?_
    refine xq_seq ?_
    refine xc_seq ?_
    refine xc_region ?_
  refine xo_ef rfl (ef_buildSlice (T := 29) (s := 1) (cells := (vals.map (Value.int .u64)).toArray) (vs := #[(0, .int .u64 0), (1, .int .u64 1), (2, .int .u64 2), (3, .int .u64 10), (4, .int .u64 25), (5, .int .u64 4294967296), (6, .int .u64 9223372036854775808), (7, .int .u64 18446744073709551614), (8, .int .u64 18446744073709551615)]) (fun a ha => by kernel_rfl) (by decide) (by decide) (by kernel_rfl) fun rv => ?_)
  obtain ⟨V, V_rng, V_get⟩ : ∃ V : Int → Int, (∀ z : Int, 0 ≤ z → z < 9 → 0 ≤ V z ∧ V z ≤ top) ∧ (∀ z : Int, 0 ≤ z → z < 9 → (vals.map (Value.int .u64))[z.toNat]? = some (Value.int .u64 (V z))) := ⟨_, V_rng, V_get⟩
  generalize vals.map (Value.int .u64) = vs at *
  focus
    refine xo_rd (rd_assign rfl) rfl ?_
    refine xo_nil ?_
    refine xq_seq ?_
    refine xc_seq ?_
    refine xc_seq ?_
    refine xc_region ?_
    refine xo_rd (rd_assign rfl) rfl ?_
    refine xo_nil ?_
    refine xq_seq ?_
    refine xc_block ?_
  refine xc_loopI (ι := Nat) (fun i => i ≤ 9) (fun i => 9 - i) (fun _ => [(rv, .cells vs.toArray 22 (0, 0))]) (fun i => [(1, .slice (some ⟨rv, 0, none⟩) 9 9), (2, .int .i64 i)]) 0 (Nat.zero_le _) rfl (by repeat (first | exact keep_nil | refine keep_cons rfl ?_)) ?_
  intro i hi
  focus
    refine xc_seq ?_
    refine xc_seq ?_
    refine xc_region ?_
    refine xo_rd (rd_move rfl) rfl ?_
    refine xo_rd (rd_move rfl) rfl ?_
    refine xo_rd (rd_len rfl) rfl ?_
    refine xo_rd (rd_lss rfl rfl) rfl ?_
    refine xo_nil ?_
    refine xq_seq ?_
    refine xc_dec rfl (fun hi1 => ?_) (fun hi1 => ?_)
    refine xc_skip ?_
    refine xq_seq ?_
    refine xc_seq ?_
    refine xc_block ?_
    refine xc_seq ?_
    refine xc_region ?_
    refine xo_rd (rd_assign rfl) rfl ?_
    refine xo_nil ?_
    refine xq_seq ?_
    refine xc_block ?_
    rotate_left
    refine xc_exit ?_
    refine xq_then_exit ?_
    refine xq_then_exit ?_
    refine xq_block_hit ?_
    refine xq_seq ?_
    refine xc_seq ?_
    refine xc_seq ?_
    refine xc_region ?_
    refine xo_rd (rd_assign rfl) rfl ?_
    refine xo_nil ?_
    refine xq_seq ?_
    refine xc_block ?_
    rotate_left
  · refine xc_loopI (ι := Nat) (fun k => k ≤ 9) (fun k => 9 - k) (fun _ => [(rv, .cells vs.toArray 22 (0, 0))]) (fun k => [(1, .slice (some ⟨rv, 0, none⟩) 9 9), (2, .int .i64 i), (3, .int .i64 k)]) 0 (Nat.zero_le _) rfl (by repeat (first | exact keep_nil | refine keep_cons rfl ?_)) ?_
    intro k hk
    focus
      refine xc_seq ?_
      refine xc_seq ?_
      refine xc_region ?_
      refine xo_rd (rd_move rfl) rfl ?_
      refine xo_rd (rd_move rfl) rfl ?_
      refine xo_rd (rd_len rfl) rfl ?_
      refine xo_rd (rd_lss rfl rfl) rfl ?_
      refine xo_nil ?_
      refine xq_seq ?_
      refine xc_dec rfl (fun hk1 => ?_) (fun hk1 => ?_)
      refine xc_skip ?_
      refine xq_seq ?_
      refine xc_seq ?_
      refine xc_block ?_
      refine xc_seq ?_
      refine xc_region ?_
      refine xo_rd (rd_assign rfl) rfl ?_
      refine xo_nil ?_
      refine xq_seq ?_
      refine xc_block ?_
      rotate_left
      refine xc_exit ?_
      refine xq_then_exit ?_
      refine xq_then_exit ?_
      refine xq_block_hit ?_
      refine xq_block ?_
      refine xq_seq ?_
      refine xc_region ?_
      refine xo_rd (rd_move rfl) rfl ?_
      refine xo_rd (rd_addn rfl rfl (by omega) (by omega)) rfl ?_
      refine xo_rd (rd_assign rfl) rfl ?_
      refine xo_nil ?_
      rotate_left
    · refine xc_loopI (ι := Nat) (fun n => n ≤ 9) (fun n => 9 - n) (fun _ => [(rv, .cells vs.toArray 22 (0, 0))]) (fun n => [(1, .slice (some ⟨rv, 0, none⟩) 9 9), (2, .int .i64 i), (3, .int .i64 k), (4, .int .i64 n)]) 0 (Nat.zero_le _) rfl (by repeat (first | exact keep_nil | refine keep_cons rfl ?_)) ?_
      intro n hn
      have hl : ∀ (L : List Blk) (z : Int), 0 ≤ z → z < 9 → Cl W (L ++ [(rv, .cells vs.toArray 22 (0, 0))]) rv (0 + z.toNat * 1) (.int .u64 (V z)) := fun L z h0 h1 => by
        rw [Nat.zero_add, Nat.mul_one]; exact Cl.app (Cl.o0 (V_get z h0 h1))
      focus
        refine xc_seq ?_
        refine xc_seq ?_
        refine xc_region ?_
        refine xo_rd (rd_move rfl) rfl ?_
        refine xo_rd (rd_move rfl) rfl ?_
        refine xo_rd (rd_len rfl) rfl ?_
        refine xo_rd (rd_lss rfl rfl) rfl ?_
        refine xo_nil ?_
        refine xq_seq ?_
        refine xc_dec rfl (fun hn1 => ?_) (fun hn1 => ?_)
        refine xc_skip ?_
        refine xq_seq ?_
        refine xc_seq ?_
        refine xc_block ?_
        refine xc_seq ?_
        refine xc_drawML [0, 0, 3, 4, 8, 0, 0, 96, 128, 256, 0, 0, 3072, 4096, 8192, 0, 0, 98304, 131072, 0, 0, 1572864, 2097152, 4456448, 0, 0, 50331648, 67108864, 134217728, 0, 0, 1610612736, 2147483648, 0, 0, 25769803776, 34359738368, 73014444032, 137715794448, 549755813887] [0, 0, 3, 4, 8, 0, 0, 96, 128, 256, 0, 0, 3072, 4096, 8192, 0, 0, 98304, 131072, 0, 0, 1572864, 2097152, 4456448, 0, 0, 50331648, 67108864, 134217728, 0, 0, 1610612736, 2147483648, 0, 0, 25769803776, 34359738368, 73014444032, 137715794448, 549755813887] (by kernel_rfl) (by kernel_rfl) (by kernel_rfl) ?_
        refine xm_take 0 (m' := 1) rfl (by kernel_rfl) (by first | exact Sb.refl | exact Sb.nil | (repeat (first | exact Sb.nil | exact Sb.refl | apply Sb.keep | apply Sb.cons))) (rd_move rfl) rfl (by kernel_rfl) ?_
        refine xm_take 1 (m' := 3) rfl (by kernel_rfl) (by first | exact Sb.refl | exact Sb.nil | (repeat (first | exact Sb.nil | exact Sb.refl | apply Sb.keep | apply Sb.cons))) (rd_move rfl) rfl (by kernel_rfl) ?_
        refine xm_take 2 (m' := 7) rfl (by kernel_rfl) (by first | exact Sb.refl | exact Sb.nil | (repeat (first | exact Sb.nil | exact Sb.refl | apply Sb.keep | apply Sb.cons))) (rd_indexAddr rfl rfl (by omega) (by omega)) rfl (by kernel_rfl) ?_
        refine xm_take 3 (m' := 15) rfl (by kernel_rfl) (by first | exact Sb.refl | exact Sb.nil | (repeat (first | exact Sb.nil | exact Sb.refl | apply Sb.keep | apply Sb.cons))) (rd_load1 rfl (hl [] _ (by omega) (by omega))) rfl (by kernel_rfl) ?_
        refine xm_take 4 (m' := 31) rfl (by kernel_rfl) (by first | exact Sb.refl | exact Sb.nil | (repeat (first | exact Sb.nil | exact Sb.refl | apply Sb.keep | apply Sb.cons))) (rd_build rfl rfl rfl) rfl (by kernel_rfl) ?_
        refine xm_take 5 (m' := 63) rfl (by kernel_rfl) (by first | exact Sb.refl | exact Sb.nil | (repeat (first | exact Sb.nil | exact Sb.refl | apply Sb.keep | apply Sb.cons))) (rd_move rfl) rfl (by kernel_rfl) ?_
        refine xm_take 6 (m' := 127) rfl (by kernel_rfl) (by first | exact Sb.refl | exact Sb.nil | (repeat (first | exact Sb.nil | exact Sb.refl | apply Sb.keep | apply Sb.cons))) (rd_move rfl) rfl (by kernel_rfl) ?_
        refine xm_take 7 (m' := 255) rfl (by kernel_rfl) (by first | exact Sb.refl | exact Sb.nil | (repeat (first | exact Sb.nil | exact Sb.refl | apply Sb.keep | apply Sb.cons))) (rd_indexAddr rfl rfl (by omega) (by omega)) rfl (by kernel_rfl) ?_
        refine xm_take 8 (m' := 511) rfl (by kernel_rfl) (by first | exact Sb.refl | exact Sb.nil | (repeat (first | exact Sb.nil | exact Sb.refl | apply Sb.keep | apply Sb.cons))) (rd_load1 rfl (hl [] _ (by omega) (by omega))) rfl (by kernel_rfl) ?_
        refine xm_take 9 (m' := 1023) rfl (by kernel_rfl) (by first | exact Sb.refl | exact Sb.nil | (repeat (first | exact Sb.nil | exact Sb.refl | apply Sb.keep | apply Sb.cons))) (rd_build rfl rfl rfl) rfl (by kernel_rfl) ?_
        refine xm_take 10 (m' := 2047) rfl (by kernel_rfl) (by first | exact Sb.refl | exact Sb.nil | (repeat (first | exact Sb.nil | exact Sb.refl | apply Sb.keep | apply Sb.cons))) (rd_move rfl) rfl (by kernel_rfl) ?_
        refine xm_take 11 (m' := 4095) rfl (by kernel_rfl) (by first | exact Sb.refl | exact Sb.nil | (repeat (first | exact Sb.nil | exact Sb.refl | apply Sb.keep | apply Sb.cons))) (rd_move rfl) rfl (by kernel_rfl) ?_
        refine xm_take 12 (m' := 8191) rfl (by kernel_rfl) (by first | exact Sb.refl | exact Sb.nil | (repeat (first | exact Sb.nil | exact Sb.refl | apply Sb.keep | apply Sb.cons))) (rd_indexAddr rfl rfl (by omega) (by omega)) rfl (by kernel_rfl) ?_
        refine xm_take 13 (m' := 16383) rfl (by kernel_rfl) (by first | exact Sb.refl | exact Sb.nil | (repeat (first | exact Sb.nil | exact Sb.refl | apply Sb.keep | apply Sb.cons))) (rd_load1 rfl (hl [] _ (by omega) (by omega))) rfl (by kernel_rfl) ?_
        refine xm_take 14 (m' := 32767) rfl (by kernel_rfl) (by first | exact Sb.refl | exact Sb.nil | (repeat (first | exact Sb.nil | exact Sb.refl | apply Sb.keep | apply Sb.cons))) (rd_build rfl rfl rfl) rfl (by kernel_rfl) ?_
        refine xm_take 15 (m' := 65535) rfl (by kernel_rfl) (by first | exact Sb.refl | exact Sb.nil | (repeat (first | exact Sb.nil | exact Sb.refl | apply Sb.keep | apply Sb.cons))) (rd_move rfl) rfl (by kernel_rfl) ?_
        refine xm_take 16 (m' := 131071) rfl (by kernel_rfl) (by first | exact Sb.refl | exact Sb.nil | (repeat (first | exact Sb.nil | exact Sb.refl | apply Sb.keep | apply Sb.cons))) (rd_move rfl) rfl (by kernel_rfl) ?_
        refine xm_take 17 (m' := 262143) rfl (by kernel_rfl) (by first | exact Sb.refl | exact Sb.nil | (repeat (first | exact Sb.nil | exact Sb.refl | apply Sb.keep | apply Sb.cons))) (rd_indexAddr rfl rfl (by omega) (by omega)) rfl (by kernel_rfl) ?_
        refine xm_take 18 (m' := 524287) rfl (by kernel_rfl) (by first | exact Sb.refl | exact Sb.nil | (repeat (first | exact Sb.nil | exact Sb.refl | apply Sb.keep | apply Sb.cons))) (rd_load1 rfl (hl [] _ (by omega) (by omega))) rfl (by kernel_rfl) ?_
        refine xm_take 19 (m' := 1048575) rfl (by kernel_rfl) (by first | exact Sb.refl | exact Sb.nil | (repeat (first | exact Sb.nil | exact Sb.refl | apply Sb.keep | apply Sb.cons))) (rd_move rfl) rfl (by kernel_rfl) ?_
        refine xm_take 20 (m' := 2097151) rfl (by kernel_rfl) (by first | exact Sb.refl | exact Sb.nil | (repeat (first | exact Sb.nil | exact Sb.refl | apply Sb.keep | apply Sb.cons))) (rd_move rfl) rfl (by kernel_rfl) ?_
        refine xm_take 21 (m' := 4194303) rfl (by kernel_rfl) (by first | exact Sb.refl | exact Sb.nil | (repeat (first | exact Sb.nil | exact Sb.refl | apply Sb.keep | apply Sb.cons))) (rd_indexAddr rfl rfl (by omega) (by omega)) rfl (by kernel_rfl) ?_
        refine xm_take 22 (m' := 8388607) rfl (by kernel_rfl) (by first | exact Sb.refl | exact Sb.nil | (repeat (first | exact Sb.nil | exact Sb.refl | apply Sb.keep | apply Sb.cons))) (rd_load1 rfl (hl [] _ (by omega) (by omega))) rfl (by kernel_rfl) ?_
        refine xm_take 23 (m' := 16777215) rfl (by kernel_rfl) (by first | exact Sb.refl | exact Sb.nil | (repeat (first | exact Sb.nil | exact Sb.refl | apply Sb.keep | apply Sb.cons))) (rd_build rfl rfl rfl) rfl (by kernel_rfl) ?_
        refine xm_take 24 (m' := 33554431) rfl (by kernel_rfl) (by first | exact Sb.refl | exact Sb.nil | (repeat (first | exact Sb.nil | exact Sb.refl | apply Sb.keep | apply Sb.cons))) (rd_move rfl) rfl (by kernel_rfl) ?_
        refine xm_take 25 (m' := 67108863) rfl (by kernel_rfl) (by first | exact Sb.refl | exact Sb.nil | (repeat (first | exact Sb.nil | exact Sb.refl | apply Sb.keep | apply Sb.cons))) (rd_move rfl) rfl (by kernel_rfl) ?_
        refine xm_take 26 (m' := 134217727) rfl (by kernel_rfl) (by first | exact Sb.refl | exact Sb.nil | (repeat (first | exact Sb.nil | exact Sb.refl | apply Sb.keep | apply Sb.cons))) (rd_indexAddr rfl rfl (by omega) (by omega)) rfl (by kernel_rfl) ?_
        refine xm_take 27 (m' := 268435455) rfl (by kernel_rfl) (by first | exact Sb.refl | exact Sb.nil | (repeat (first | exact Sb.nil | exact Sb.refl | apply Sb.keep | apply Sb.cons))) (rd_load1 rfl (hl [] _ (by omega) (by omega))) rfl (by kernel_rfl) ?_
        refine xm_take 28 (m' := 536870911) rfl (by kernel_rfl) (by first | exact Sb.refl | exact Sb.nil | (repeat (first | exact Sb.nil | exact Sb.refl | apply Sb.keep | apply Sb.cons))) (rd_build rfl rfl rfl) rfl (by kernel_rfl) ?_
        refine xm_take 29 (m' := 1073741823) rfl (by kernel_rfl) (by first | exact Sb.refl | exact Sb.nil | (repeat (first | exact Sb.nil | exact Sb.refl | apply Sb.keep | apply Sb.cons))) (rd_move rfl) rfl (by kernel_rfl) ?_
        refine xm_take 30 (m' := 2147483647) rfl (by kernel_rfl) (by first | exact Sb.refl | exact Sb.nil | (repeat (first | exact Sb.nil | exact Sb.refl | apply Sb.keep | apply Sb.cons))) (rd_move rfl) rfl (by kernel_rfl) ?_
        refine xm_take 31 (m' := 4294967295) rfl (by kernel_rfl) (by first | exact Sb.refl | exact Sb.nil | (repeat (first | exact Sb.nil | exact Sb.refl | apply Sb.keep | apply Sb.cons))) (rd_indexAddr rfl rfl (by omega) (by omega)) rfl (by kernel_rfl) ?_
        refine xm_take 32 (m' := 8589934591) rfl (by kernel_rfl) (by first | exact Sb.refl | exact Sb.nil | (repeat (first | exact Sb.nil | exact Sb.refl | apply Sb.keep | apply Sb.cons))) (rd_load1 rfl (hl [] _ (by omega) (by omega))) rfl (by kernel_rfl) ?_
        refine xm_take 33 (m' := 17179869183) rfl (by kernel_rfl) (by first | exact Sb.refl | exact Sb.nil | (repeat (first | exact Sb.nil | exact Sb.refl | apply Sb.keep | apply Sb.cons))) (rd_move rfl) rfl (by kernel_rfl) ?_
        refine xm_take 34 (m' := 34359738367) rfl (by kernel_rfl) (by first | exact Sb.refl | exact Sb.nil | (repeat (first | exact Sb.nil | exact Sb.refl | apply Sb.keep | apply Sb.cons))) (rd_move rfl) rfl (by kernel_rfl) ?_
        refine xm_take 35 (m' := 68719476735) rfl (by kernel_rfl) (by first | exact Sb.refl | exact Sb.nil | (repeat (first | exact Sb.nil | exact Sb.refl | apply Sb.keep | apply Sb.cons))) (rd_indexAddr rfl rfl (by omega) (by omega)) rfl (by kernel_rfl) ?_
        refine xm_take 36 (m' := 137438953471) rfl (by kernel_rfl) (by first | exact Sb.refl | exact Sb.nil | (repeat (first | exact Sb.nil | exact Sb.refl | apply Sb.keep | apply Sb.cons))) (rd_load1 rfl (hl [] _ (by omega) (by omega))) rfl (by kernel_rfl) ?_
        refine xm_take 37 (m' := 274877906943) rfl (by kernel_rfl) (by first | exact Sb.refl | exact Sb.nil | (repeat (first | exact Sb.nil | exact Sb.refl | apply Sb.keep | apply Sb.cons))) (rd_build rfl rfl rfl) rfl (by kernel_rfl) ?_
        refine xm_one 38 (m' := 549755813887) rfl (by kernel_rfl) rfl (by kernel_rfl) (ef_buildL (T := 23) (s := 3) (cells := ([⟨1, V n, 0⟩, ⟨0, 0, V k⟩, ⟨2, V i, 0⟩, ⟨3, V k, V n⟩, ⟨0, 0, V i⟩, ⟨1, V k, V n⟩].flatMap Act.enc).toArray) rfl (by decide) (by decide) (by kernel_rfl) fun rl => ?_)
        refine ⟨(by first | exact Sb.refl | exact Sb.nil | (repeat (first | exact Sb.nil | exact Sb.refl | apply Sb.keep | apply Sb.cons))), ?_⟩
        refine xm_take 39 (m' := 1099511627775) rfl (by kernel_rfl) (by first | exact Sb.refl | exact Sb.nil | (repeat (first | exact Sb.nil | exact Sb.refl | apply Sb.keep | apply Sb.cons))) (rd_assign rfl) rfl (by kernel_rfl) ?_
        refine xm_done (by kernel_rfl) ?_
        refine xq_seq ?_
        refine xc_seq ?_
        refine xc_drawML [0, 0, 3, 4, 0, 0, 48, 64, 0, 0, 768, 1024, 0, 0, 0, 0, 49152, 0, 196608, 262144, 532480, 1048576, 2103432, 4194304, 12582912, 16777216, 16777216, 117440512, 150994944, 16777216, 16777216, 1627389952, 2164260864, 16777216, 16777216, 25786580992, 34376515584, 16777216, 210738610176, 274894684160, 549772591104, 1374389534720, 2199023255552, 2199023255552, 15393162788864, 19791209299968, 2199023255552, 2199023255552, 213305255788544, 283673999966208, 2199023255552, 2199023255552, 3379898743783424, 4505798650626048, 2199023255552, 2199023255552, 2199023255552, 108088590080147456, 144117387099111424, 306246973684449280, 576462951326679040, 2199023255552, 2199023255552, 2199023255552, 13835060254305419264, 18446746272732807168, 39199333355656052736, 73786978493861462016, 148736481626886766592, 295147907378376081408, 590295812557728907264, 1475739525896764129280, 2361183241434822606848, 2361183241434822606848, 16528282690043758247936, 21250649172913403461632, 2361183241434822606848, 2361183241434822606848, 229034774419177792864256, 304592638145092116283392, 2361183241434822606848, 2361183241434822606848, 3629138642085322346725376, 4838064461699951521431552, 2361183241434822606848, 2361183241434822606848, 2361183241434822606848, 116059239866245835594399744, 154744866093913969184997376, 328830184118420570342686720, 618972380825931572272168960, 1248256048867209014868443136, 2475882439754001984620855296, 4951762518324762534419103744] [0, 0, 3, 4, 0, 0, 48, 64, 0, 0, 768, 1024, 0, 0, 0, 0, 49152, 0, 196608, 262144, 532480, 1048576, 2103432, 4194304, 12582912, 16777216, 16777216, 117440512, 150994944, 16777216, 16777216, 1627389952, 2164260864, 16777216, 16777216, 25786580992, 34376515584, 16777216, 210738610176, 274894684160, 549772591104, 1374389534720, 2199023255552, 2199023255552, 15393162788864, 19791209299968, 2199023255552, 2199023255552, 213305255788544, 283673999966208, 2199023255552, 2199023255552, 3379898743783424, 4505798650626048, 2199023255552, 2199023255552, 2199023255552, 108088590080147456, 144117387099111424, 306246973684449280, 576462951326679040, 2199023255552, 2199023255552, 2199023255552, 13835060254305419264, 18446746272732807168, 39199333355656052736, 73786978493861462016, 148736481626886766592, 295147907378376081408, 590295812557728907264, 1475739525896764129280, 2361183241434822606848, 2361183241434822606848, 16528282690043758247936, 21250649172913403461632, 2361183241434822606848, 2361183241434822606848, 229034774419177792864256, 304592638145092116283392, 2361183241434822606848, 2361183241434822606848, 3629138642085322346725376, 4838064461699951521431552, 2361183241434822606848, 2361183241434822606848, 2361183241434822606848, 116059239866245835594399744, 154744866093913969184997376, 328830184118420570342686720, 618972380825931572272168960, 1248256048867209014868443136, 2475882439754001984620855296, 4951762518324762534419103744] (by kernel_rfl) (by kernel_rfl) (by kernel_rfl) ?_
        refine xm_take 0 (m' := 1) rfl (by kernel_rfl) (by first | exact Sb.refl | exact Sb.nil | (repeat (first | exact Sb.nil | exact Sb.refl | apply Sb.keep | apply Sb.cons))) (rd_move rfl) rfl (by kernel_rfl) ?_
        refine xm_take 1 (m' := 3) rfl (by kernel_rfl) (by first | exact Sb.refl | exact Sb.nil | (repeat (first | exact Sb.nil | exact Sb.refl | apply Sb.keep | apply Sb.cons))) (rd_move rfl) rfl (by kernel_rfl) ?_
        refine xm_take 2 (m' := 7) rfl (by kernel_rfl) (by first | exact Sb.refl | exact Sb.nil | (repeat (first | exact Sb.nil | exact Sb.refl | apply Sb.keep | apply Sb.cons))) (rd_indexAddr rfl rfl (by omega) (by omega)) rfl (by kernel_rfl) ?_
        refine xm_take 3 (m' := 15) rfl (by kernel_rfl) (by first | exact Sb.refl | exact Sb.nil | (repeat (first | exact Sb.nil | exact Sb.refl | apply Sb.keep | apply Sb.cons))) (rd_load1 rfl (hl [_] _ (by omega) (by omega))) rfl (by kernel_rfl) ?_
        refine xm_take 4 (m' := 31) rfl (by kernel_rfl) (by first | exact Sb.refl | exact Sb.nil | (repeat (first | exact Sb.nil | exact Sb.refl | apply Sb.keep | apply Sb.cons))) (rd_move rfl) rfl (by kernel_rfl) ?_
        refine xm_take 5 (m' := 63) rfl (by kernel_rfl) (by first | exact Sb.refl | exact Sb.nil | (repeat (first | exact Sb.nil | exact Sb.refl | apply Sb.keep | apply Sb.cons))) (rd_move rfl) rfl (by kernel_rfl) ?_
        refine xm_take 6 (m' := 127) rfl (by kernel_rfl) (by first | exact Sb.refl | exact Sb.nil | (repeat (first | exact Sb.nil | exact Sb.refl | apply Sb.keep | apply Sb.cons))) (rd_indexAddr rfl rfl (by omega) (by omega)) rfl (by kernel_rfl) ?_
        refine xm_take 7 (m' := 255) rfl (by kernel_rfl) (by first | exact Sb.refl | exact Sb.nil | (repeat (first | exact Sb.nil | exact Sb.refl | apply Sb.keep | apply Sb.cons))) (rd_load1 rfl (hl [_] _ (by omega) (by omega))) rfl (by kernel_rfl) ?_
        refine xm_take 8 (m' := 511) rfl (by kernel_rfl) (by first | exact Sb.refl | exact Sb.nil | (repeat (first | exact Sb.nil | exact Sb.refl | apply Sb.keep | apply Sb.cons))) (rd_move rfl) rfl (by kernel_rfl) ?_
        refine xm_take 9 (m' := 1023) rfl (by kernel_rfl) (by first | exact Sb.refl | exact Sb.nil | (repeat (first | exact Sb.nil | exact Sb.refl | apply Sb.keep | apply Sb.cons))) (rd_move rfl) rfl (by kernel_rfl) ?_
        refine xm_take 10 (m' := 2047) rfl (by kernel_rfl) (by first | exact Sb.refl | exact Sb.nil | (repeat (first | exact Sb.nil | exact Sb.refl | apply Sb.keep | apply Sb.cons))) (rd_indexAddr rfl rfl (by omega) (by omega)) rfl (by kernel_rfl) ?_
        refine xm_take 11 (m' := 4095) rfl (by kernel_rfl) (by first | exact Sb.refl | exact Sb.nil | (repeat (first | exact Sb.nil | exact Sb.refl | apply Sb.keep | apply Sb.cons))) (rd_load1 rfl (hl [_] _ (by omega) (by omega))) rfl (by kernel_rfl) ?_
        refine xm_take 12 (m' := 8191) rfl (by kernel_rfl) (by first | exact Sb.refl | exact Sb.nil | (repeat (first | exact Sb.nil | exact Sb.refl | apply Sb.keep | apply Sb.cons))) (rd_move rfl) rfl (by kernel_rfl) ?_
        refine xm_take 13 (m' := 16383) rfl (by kernel_rfl) (by first | exact Sb.refl | exact Sb.nil | (repeat (first | exact Sb.nil | exact Sb.refl | apply Sb.keep | apply Sb.cons))) (rd_move rfl) rfl (by kernel_rfl) ?_
        refine xm_take 14 (m' := 32767) rfl (by kernel_rfl) (by first | exact Sb.refl | exact Sb.nil | (repeat (first | exact Sb.nil | exact Sb.refl | apply Sb.keep | apply Sb.cons))) (rd_move rfl) rfl (by kernel_rfl) ?_
        refine xm_take 15 (m' := 65535) rfl (by kernel_rfl) (by first | exact Sb.refl | exact Sb.nil | (repeat (first | exact Sb.nil | exact Sb.refl | apply Sb.keep | apply Sb.cons))) (rd_move rfl) rfl (by kernel_rfl) ?_
        refine xm_take 16 (m' := 131071) rfl (by kernel_rfl) (by first | exact Sb.refl | exact Sb.nil | (repeat (first | exact Sb.nil | exact Sb.refl | apply Sb.keep | apply Sb.cons))) (rd_addn rfl rfl (by omega) (by omega)) rfl (by kernel_rfl) ?_
        refine xm_take 17 (m' := 262143) rfl (by kernel_rfl) (by first | exact Sb.refl | exact Sb.nil | (repeat (first | exact Sb.nil | exact Sb.refl | apply Sb.keep | apply Sb.cons))) (rd_move rfl) rfl (by kernel_rfl) ?_
        refine xm_take 18 (m' := 524287) rfl (by kernel_rfl) (by first | exact Sb.refl | exact Sb.nil | (repeat (first | exact Sb.nil | exact Sb.refl | apply Sb.keep | apply Sb.cons))) (rd_addn rfl rfl (by omega) (by omega)) rfl (by kernel_rfl) ?_
        refine xm_take 19 (m' := 1048575) rfl (by kernel_rfl) (by first | exact Sb.refl | exact Sb.nil | (repeat (first | exact Sb.nil | exact Sb.refl | apply Sb.keep | apply Sb.cons))) (rd_remn rfl rfl (by omega) (by omega)) rfl (by kernel_rfl) ?_
        refine xm_take 20 (m' := 2097151) rfl (by kernel_rfl) (by first | exact Sb.refl | exact Sb.nil | (repeat (first | exact Sb.nil | exact Sb.refl | apply Sb.keep | apply Sb.cons))) (rd_indexAddr rfl rfl (by omega) (by omega)) rfl (by kernel_rfl) ?_
        refine xm_take 21 (m' := 4194303) rfl (by kernel_rfl) (by first | exact Sb.refl | exact Sb.nil | (repeat (first | exact Sb.nil | exact Sb.refl | apply Sb.keep | apply Sb.cons))) (rd_load1 rfl (hl [_] _ (by omega) (by omega))) rfl (by kernel_rfl) ?_
        rotate_left
        refine xc_exit ?_
        refine xq_then_exit ?_
        refine xq_then_exit ?_
        refine xq_block_hit ?_
        refine xq_block ?_
        refine xq_seq ?_
        refine xc_region ?_
        refine xo_rd (rd_move rfl) rfl ?_
        refine xo_rd (rd_addn rfl rfl (by omega) (by omega)) rfl ?_
        refine xo_rd (rd_assign rfl) rfl ?_
        refine xo_nil ?_
        rotate_left
      · skip
        have hacts : ∀ x ∈ ([⟨1, V n, 0⟩, ⟨0, 0, V k⟩, ⟨2, V i, 0⟩, ⟨3, V k, V n⟩, ⟨0, 0, V i⟩, ⟨1, V k, V n⟩] : List Act), InK .u64 x.f1 ∧ InK .u64 x.f2 := by
          have v1 := V_rng n (by omega) (by omega)
          have v2 := V_rng k (by omega) (by omega)
          have v3 := V_rng i (by omega) (by omega)
          have v4 : InK .u64 0 := by rw [inK_u64]; decide
          intro x hx
          simp only [List.mem_cons, List.not_mem_nil, or_false] at hx
          rcases hx with rfl | rfl | rfl | rfl | rfl | rfl
          · exact ⟨v1, v4⟩
          · exact ⟨v4, v2⟩
          · exact ⟨v3, v4⟩
          · exact ⟨v2, v1⟩
          · exact ⟨v4, v3⟩
          · exact ⟨v2, v1⟩
        generalize hg : ([⟨1, V n, 0⟩, ⟨0, 0, V k⟩, ⟨2, V i, 0⟩, ⟨3, V k, V n⟩, ⟨0, 0, V i⟩, ⟨1, V k, V n⟩] : List Act) = acts at *
        have hal : acts.length = 6 := by rw [← hg]; rfl
        clear hg
        focus
          refine xm_one 22 (m' := 8388607) rfl (by kernel_rfl) rfl (by kernel_rfl) (ef_call rfl (XF.mono (xf_BucketPlays _ _ _ _ _ 6 6 acts hal (Rs.fresh (List.Mem.head _)) hacts (V_rng _ (by omega) (by omega)).1 (V_rng _ (by omega) (by omega)).2 (V_rng _ (by omega) (by omega)).1 (V_rng _ (by omega) (by omega)).2 (V_rng _ (by omega) (by omega)).1 (V_rng _ (by omega) (by omega)).2 (V_rng _ (by omega) (by omega)).1 (V_rng _ (by omega) (by omega)).2) ?_))
          rintro v L' ⟨rfl, rfl⟩
          refine ⟨(by first | exact Sb.refl | exact Sb.nil | (repeat (first | exact Sb.nil | exact Sb.refl | apply Sb.keep | apply Sb.cons))), ?_⟩
          refine xm_take 23 (m' := 16777215) rfl (by kernel_rfl) (by first | exact Sb.refl | exact Sb.nil | (repeat (first | exact Sb.nil | exact Sb.refl | apply Sb.keep | apply Sb.cons))) (rd_not rfl) rfl (by kernel_rfl) ?_
          refine xm_take 24 (m' := 33554431) rfl (by kernel_rfl) (by first | exact Sb.refl | exact Sb.nil | (repeat (first | exact Sb.nil | exact Sb.refl | apply Sb.keep | apply Sb.cons))) (rd_move rfl) rfl (by kernel_rfl) ?_
          refine xm_gtake 25 (m' := 67108863) rfl (by kernel_rfl) (by first | exact Sb.refl | exact Sb.nil | (repeat (first | exact Sb.nil | exact Sb.refl | apply Sb.keep | apply Sb.cons))) rfl rfl (rd_move rfl) rfl (by kernel_rfl) ?_
          refine xm_gtake 26 (m' := 134217727) rfl (by kernel_rfl) (by first | exact Sb.refl | exact Sb.nil | (repeat (first | exact Sb.nil | exact Sb.refl | apply Sb.keep | apply Sb.cons))) rfl rfl (rd_move rfl) rfl (by kernel_rfl) ?_
          refine xm_gtake 27 (m' := 268435455) rfl (by kernel_rfl) (by first | exact Sb.refl | exact Sb.nil | (repeat (first | exact Sb.nil | exact Sb.refl | apply Sb.keep | apply Sb.cons))) rfl rfl (rd_indexAddr rfl rfl (by omega) (by omega)) rfl (by kernel_rfl) ?_
          refine xm_gtake 28 (m' := 536870911) rfl (by kernel_rfl) (by first | exact Sb.refl | exact Sb.nil | (repeat (first | exact Sb.nil | exact Sb.refl | apply Sb.keep | apply Sb.cons))) rfl rfl (rd_load1 rfl (hl [_] _ (by omega) (by omega))) rfl (by kernel_rfl) ?_
          refine xm_gtake 29 (m' := 1073741823) rfl (by kernel_rfl) (by first | exact Sb.refl | exact Sb.nil | (repeat (first | exact Sb.nil | exact Sb.refl | apply Sb.keep | apply Sb.cons))) rfl rfl (rd_move rfl) rfl (by kernel_rfl) ?_
          refine xm_gtake 30 (m' := 2147483647) rfl (by kernel_rfl) (by first | exact Sb.refl | exact Sb.nil | (repeat (first | exact Sb.nil | exact Sb.refl | apply Sb.keep | apply Sb.cons))) rfl rfl (rd_move rfl) rfl (by kernel_rfl) ?_
          refine xm_gtake 31 (m' := 4294967295) rfl (by kernel_rfl) (by first | exact Sb.refl | exact Sb.nil | (repeat (first | exact Sb.nil | exact Sb.refl | apply Sb.keep | apply Sb.cons))) rfl rfl (rd_indexAddr rfl rfl (by omega) (by omega)) rfl (by kernel_rfl) ?_
          refine xm_gtake 32 (m' := 8589934591) rfl (by kernel_rfl) (by first | exact Sb.refl | exact Sb.nil | (repeat (first | exact Sb.nil | exact Sb.refl | apply Sb.keep | apply Sb.cons))) rfl rfl (rd_load1 rfl (hl [_] _ (by omega) (by omega))) rfl (by kernel_rfl) ?_
          refine xm_gtake 33 (m' := 17179869183) rfl (by kernel_rfl) (by first | exact Sb.refl | exact Sb.nil | (repeat (first | exact Sb.nil | exact Sb.refl | apply Sb.keep | apply Sb.cons))) rfl rfl (rd_move rfl) rfl (by kernel_rfl) ?_
          refine xm_gtake 34 (m' := 34359738367) rfl (by kernel_rfl) (by first | exact Sb.refl | exact Sb.nil | (repeat (first | exact Sb.nil | exact Sb.refl | apply Sb.keep | apply Sb.cons))) rfl rfl (rd_move rfl) rfl (by kernel_rfl) ?_
          refine xm_gtake 35 (m' := 68719476735) rfl (by kernel_rfl) (by first | exact Sb.refl | exact Sb.nil | (repeat (first | exact Sb.nil | exact Sb.refl | apply Sb.keep | apply Sb.cons))) rfl rfl (rd_indexAddr rfl rfl (by omega) (by omega)) rfl (by kernel_rfl) ?_
          refine xm_gtake 36 (m' := 137438953471) rfl (by kernel_rfl) (by first | exact Sb.refl | exact Sb.nil | (repeat (first | exact Sb.nil | exact Sb.refl | apply Sb.keep | apply Sb.cons))) rfl rfl (rd_load1 rfl (hl [_] _ (by omega) (by omega))) rfl (by kernel_rfl) ?_
          refine xm_gtake 37 (m' := 274877906943) rfl (by kernel_rfl) (by first | exact Sb.refl | exact Sb.nil | (repeat (first | exact Sb.nil | exact Sb.refl | apply Sb.keep | apply Sb.cons))) rfl rfl (rd_move rfl) rfl (by kernel_rfl) ?_
          refine xm_gone 38 (m' := 549755813887) rfl (by kernel_rfl) rfl rfl rfl (by kernel_rfl) (ef_call rfl (XF.mono (xf_BucketBounds _ _ _ _ 6 6 acts hal (Rs.fresh (List.Mem.head _)) hacts (V_rng _ (by omega) (by omega)).1 (V_rng _ (by omega) (by omega)).2 (V_rng _ (by omega) (by omega)).1 (V_rng _ (by omega) (by omega)).2 (V_rng _ (by omega) (by omega)).1 (V_rng _ (by omega) (by omega)).2) ?_))
          rintro v L' ⟨rfl, rfl⟩
          refine ⟨(by first | exact Sb.refl | exact Sb.nil | (repeat (first | exact Sb.nil | exact Sb.refl | apply Sb.keep | apply Sb.cons))), ?_⟩
          refine xm_gtake 39 (m' := 1099511627775) rfl (by kernel_rfl) (by first | exact Sb.refl | exact Sb.nil | (repeat (first | exact Sb.nil | exact Sb.refl | apply Sb.keep | apply Sb.cons))) rfl rfl (rd_not rfl) rfl (by kernel_rfl) ?_
          refine xm_take 40 (m' := 2199023255551) rfl (by kernel_rfl) (by first | exact Sb.refl | exact Sb.nil | (repeat (first | exact Sb.nil | exact Sb.refl | apply Sb.keep | apply Sb.cons))) (rd_pickf rfl rfl) rfl (by kernel_rfl) ?_
          refine xm_take 41 (m' := 4398046511103) rfl (by kernel_rfl) (by first | exact Sb.refl | exact Sb.nil | (repeat (first | exact Sb.nil | exact Sb.refl | apply Sb.keep | apply Sb.cons))) (rd_move rfl) rfl (by kernel_rfl) ?_
          refine xm_gtake 42 (m' := 8796093022207) rfl (by kernel_rfl) (by first | exact Sb.refl | exact Sb.nil | (repeat (first | exact Sb.nil | exact Sb.refl | apply Sb.keep | apply Sb.cons))) rfl rfl (rd_move rfl) rfl (by kernel_rfl) ?_
          refine xm_gtake 43 (m' := 17592186044415) rfl (by kernel_rfl) (by first | exact Sb.refl | exact Sb.nil | (repeat (first | exact Sb.nil | exact Sb.refl | apply Sb.keep | apply Sb.cons))) rfl rfl (rd_move rfl) rfl (by kernel_rfl) ?_
          refine xm_gtake 44 (m' := 35184372088831) rfl (by kernel_rfl) (by first | exact Sb.refl | exact Sb.nil | (repeat (first | exact Sb.nil | exact Sb.refl | apply Sb.keep | apply Sb.cons))) rfl rfl (rd_indexAddr rfl rfl (by omega) (by omega)) rfl (by kernel_rfl) ?_
          refine xm_gtake 45 (m' := 70368744177663) rfl (by kernel_rfl) (by first | exact Sb.refl | exact Sb.nil | (repeat (first | exact Sb.nil | exact Sb.refl | apply Sb.keep | apply Sb.cons))) rfl rfl (rd_load1 rfl (hl [_] _ (by omega) (by omega))) rfl (by kernel_rfl) ?_
          refine xm_gtake 46 (m' := 140737488355327) rfl (by kernel_rfl) (by first | exact Sb.refl | exact Sb.nil | (repeat (first | exact Sb.nil | exact Sb.refl | apply Sb.keep | apply Sb.cons))) rfl rfl (rd_move rfl) rfl (by kernel_rfl) ?_
          refine xm_gtake 47 (m' := 281474976710655) rfl (by kernel_rfl) (by first | exact Sb.refl | exact Sb.nil | (repeat (first | exact Sb.nil | exact Sb.refl | apply Sb.keep | apply Sb.cons))) rfl rfl (rd_move rfl) rfl (by kernel_rfl) ?_
          refine xm_gtake 48 (m' := 562949953421311) rfl (by kernel_rfl) (by first | exact Sb.refl | exact Sb.nil | (repeat (first | exact Sb.nil | exact Sb.refl | apply Sb.keep | apply Sb.cons))) rfl rfl (rd_indexAddr rfl rfl (by omega) (by omega)) rfl (by kernel_rfl) ?_
          refine xm_gtake 49 (m' := 1125899906842623) rfl (by kernel_rfl) (by first | exact Sb.refl | exact Sb.nil | (repeat (first | exact Sb.nil | exact Sb.refl | apply Sb.keep | apply Sb.cons))) rfl rfl (rd_load1 rfl (hl [_] _ (by omega) (by omega))) rfl (by kernel_rfl) ?_
          refine xm_gtake 50 (m' := 2251799813685247) rfl (by kernel_rfl) (by first | exact Sb.refl | exact Sb.nil | (repeat (first | exact Sb.nil | exact Sb.refl | apply Sb.keep | apply Sb.cons))) rfl rfl (rd_move rfl) rfl (by kernel_rfl) ?_
          refine xm_gtake 51 (m' := 4503599627370495) rfl (by kernel_rfl) (by first | exact Sb.refl | exact Sb.nil | (repeat (first | exact Sb.nil | exact Sb.refl | apply Sb.keep | apply Sb.cons))) rfl rfl (rd_move rfl) rfl (by kernel_rfl) ?_
          refine xm_gtake 52 (m' := 9007199254740991) rfl (by kernel_rfl) (by first | exact Sb.refl | exact Sb.nil | (repeat (first | exact Sb.nil | exact Sb.refl | apply Sb.keep | apply Sb.cons))) rfl rfl (rd_indexAddr rfl rfl (by omega) (by omega)) rfl (by kernel_rfl) ?_
          refine xm_gtake 53 (m' := 18014398509481983) rfl (by kernel_rfl) (by first | exact Sb.refl | exact Sb.nil | (repeat (first | exact Sb.nil | exact Sb.refl | apply Sb.keep | apply Sb.cons))) rfl rfl (rd_load1 rfl (hl [_] _ (by omega) (by omega))) rfl (by kernel_rfl) ?_
          refine xm_gtake 54 (m' := 36028797018963967) rfl (by kernel_rfl) (by first | exact Sb.refl | exact Sb.nil | (repeat (first | exact Sb.nil | exact Sb.refl | apply Sb.keep | apply Sb.cons))) rfl rfl (rd_move rfl) rfl (by kernel_rfl) ?_
          refine xm_gtake 55 (m' := 72057594037927935) rfl (by kernel_rfl) (by first | exact Sb.refl | exact Sb.nil | (repeat (first | exact Sb.nil | exact Sb.refl | apply Sb.keep | apply Sb.cons))) rfl rfl (rd_move rfl) rfl (by kernel_rfl) ?_
          refine xm_gtake 56 (m' := 144115188075855871) rfl (by kernel_rfl) (by first | exact Sb.refl | exact Sb.nil | (repeat (first | exact Sb.nil | exact Sb.refl | apply Sb.keep | apply Sb.cons))) rfl rfl (rd_move rfl) rfl (by kernel_rfl) ?_
          refine xm_gtake 57 (m' := 288230376151711743) rfl (by kernel_rfl) (by first | exact Sb.refl | exact Sb.nil | (repeat (first | exact Sb.nil | exact Sb.refl | apply Sb.keep | apply Sb.cons))) rfl rfl (rd_addn rfl rfl (by omega) (by omega)) rfl (by kernel_rfl) ?_
          refine xm_gtake 58 (m' := 576460752303423487) rfl (by kernel_rfl) (by first | exact Sb.refl | exact Sb.nil | (repeat (first | exact Sb.nil | exact Sb.refl | apply Sb.keep | apply Sb.cons))) rfl rfl (rd_remn rfl rfl (by omega) (by omega)) rfl (by kernel_rfl) ?_
          refine xm_gtake 59 (m' := 1152921504606846975) rfl (by kernel_rfl) (by first | exact Sb.refl | exact Sb.nil | (repeat (first | exact Sb.nil | exact Sb.refl | apply Sb.keep | apply Sb.cons))) rfl rfl (rd_indexAddr rfl rfl (by omega) (by omega)) rfl (by kernel_rfl) ?_
          refine xm_gtake 60 (m' := 2305843009213693951) rfl (by kernel_rfl) (by first | exact Sb.refl | exact Sb.nil | (repeat (first | exact Sb.nil | exact Sb.refl | apply Sb.keep | apply Sb.cons))) rfl rfl (rd_load1 rfl (hl [_] _ (by omega) (by omega))) rfl (by kernel_rfl) ?_
          refine xm_gtake 61 (m' := 4611686018427387903) rfl (by kernel_rfl) (by first | exact Sb.refl | exact Sb.nil | (repeat (first | exact Sb.nil | exact Sb.refl | apply Sb.keep | apply Sb.cons))) rfl rfl (rd_move rfl) rfl (by kernel_rfl) ?_
          refine xm_gtake 62 (m' := 9223372036854775807) rfl (by kernel_rfl) (by first | exact Sb.refl | exact Sb.nil | (repeat (first | exact Sb.nil | exact Sb.refl | apply Sb.keep | apply Sb.cons))) rfl rfl (rd_move rfl) rfl (by kernel_rfl) ?_
          refine xm_gtake 63 (m' := 18446744073709551615) rfl (by kernel_rfl) (by first | exact Sb.refl | exact Sb.nil | (repeat (first | exact Sb.nil | exact Sb.refl | apply Sb.keep | apply Sb.cons))) rfl rfl (rd_move rfl) rfl (by kernel_rfl) ?_
          refine xm_gtake 64 (m' := 36893488147419103231) rfl (by kernel_rfl) (by first | exact Sb.refl | exact Sb.nil | (repeat (first | exact Sb.nil | exact Sb.refl | apply Sb.keep | apply Sb.cons))) rfl rfl (rd_addn rfl rfl (by omega) (by omega)) rfl (by kernel_rfl) ?_
          refine xm_gtake 65 (m' := 73786976294838206463) rfl (by kernel_rfl) (by first | exact Sb.refl | exact Sb.nil | (repeat (first | exact Sb.nil | exact Sb.refl | apply Sb.keep | apply Sb.cons))) rfl rfl (rd_remn rfl rfl (by omega) (by omega)) rfl (by kernel_rfl) ?_
          refine xm_gtake 66 (m' := 147573952589676412927) rfl (by kernel_rfl) (by first | exact Sb.refl | exact Sb.nil | (repeat (first | exact Sb.nil | exact Sb.refl | apply Sb.keep | apply Sb.cons))) rfl rfl (rd_indexAddr rfl rfl (by omega) (by omega)) rfl (by kernel_rfl) ?_
          refine xm_gtake 67 (m' := 295147905179352825855) rfl (by kernel_rfl) (by first | exact Sb.refl | exact Sb.nil | (repeat (first | exact Sb.nil | exact Sb.refl | apply Sb.keep | apply Sb.cons))) rfl rfl (rd_load1 rfl (hl [_] _ (by omega) (by omega))) rfl (by kernel_rfl) ?_
          refine xm_gone 68 (m' := 590295810358705651711) rfl (by kernel_rfl) rfl rfl rfl (by kernel_rfl) (ef_call rfl (XF.mono (xf_any fun W => xf_BucketUntil _ _ _ _ _ (V_rng _ (by omega) (by omega)).1 (V_rng _ (by omega) (by omega)).2 (V_rng _ (by omega) (by omega)).1 (V_rng _ (by omega) (by omega)).2 (V_rng _ (by omega) (by omega)).1 (V_rng _ (by omega) (by omega)).2 (V_rng _ (by omega) (by omega)).1 (V_rng _ (by omega) (by omega)).2 (V_rng _ (by omega) (by omega)).1 (V_rng _ (by omega) (by omega)).2) ?_))
          rintro v L' ⟨rfl, rfl⟩
          refine ⟨(by first | exact Sb.refl | exact Sb.nil | (repeat (first | exact Sb.nil | exact Sb.refl | apply Sb.keep | apply Sb.cons))), ?_⟩
          refine xm_gtake 69 (m' := 1180591620717411303423) rfl (by kernel_rfl) (by first | exact Sb.refl | exact Sb.nil | (repeat (first | exact Sb.nil | exact Sb.refl | apply Sb.keep | apply Sb.cons))) rfl rfl (rd_not rfl) rfl (by kernel_rfl) ?_
          refine xm_take 70 (m' := 2361183241434822606847) rfl (by kernel_rfl) (by first | exact Sb.refl | exact Sb.nil | (repeat (first | exact Sb.nil | exact Sb.refl | apply Sb.keep | apply Sb.cons))) (rd_pickf rfl rfl) rfl (by kernel_rfl) ?_
          refine xm_take 71 (m' := 4722366482869645213695) rfl (by kernel_rfl) (by first | exact Sb.refl | exact Sb.nil | (repeat (first | exact Sb.nil | exact Sb.refl | apply Sb.keep | apply Sb.cons))) (rd_move rfl) rfl (by kernel_rfl) ?_
          refine xm_gtake 72 (m' := 9444732965739290427391) rfl (by kernel_rfl) (by first | exact Sb.refl | exact Sb.nil | (repeat (first | exact Sb.nil | exact Sb.refl | apply Sb.keep | apply Sb.cons))) rfl rfl (rd_move rfl) rfl (by kernel_rfl) ?_
          refine xm_gtake 73 (m' := 18889465931478580854783) rfl (by kernel_rfl) (by first | exact Sb.refl | exact Sb.nil | (repeat (first | exact Sb.nil | exact Sb.refl | apply Sb.keep | apply Sb.cons))) rfl rfl (rd_move rfl) rfl (by kernel_rfl) ?_
          refine xm_gtake 74 (m' := 37778931862957161709567) rfl (by kernel_rfl) (by first | exact Sb.refl | exact Sb.nil | (repeat (first | exact Sb.nil | exact Sb.refl | apply Sb.keep | apply Sb.cons))) rfl rfl (rd_indexAddr rfl rfl (by omega) (by omega)) rfl (by kernel_rfl) ?_
          refine xm_gtake 75 (m' := 75557863725914323419135) rfl (by kernel_rfl) (by first | exact Sb.refl | exact Sb.nil | (repeat (first | exact Sb.nil | exact Sb.refl | apply Sb.keep | apply Sb.cons))) rfl rfl (rd_load1 rfl (hl [_] _ (by omega) (by omega))) rfl (by kernel_rfl) ?_
          refine xm_gtake 76 (m' := 151115727451828646838271) rfl (by kernel_rfl) (by first | exact Sb.refl | exact Sb.nil | (repeat (first | exact Sb.nil | exact Sb.refl | apply Sb.keep | apply Sb.cons))) rfl rfl (rd_move rfl) rfl (by kernel_rfl) ?_
          refine xm_gtake 77 (m' := 302231454903657293676543) rfl (by kernel_rfl) (by first | exact Sb.refl | exact Sb.nil | (repeat (first | exact Sb.nil | exact Sb.refl | apply Sb.keep | apply Sb.cons))) rfl rfl (rd_move rfl) rfl (by kernel_rfl) ?_
          refine xm_gtake 78 (m' := 604462909807314587353087) rfl (by kernel_rfl) (by first | exact Sb.refl | exact Sb.nil | (repeat (first | exact Sb.nil | exact Sb.refl | apply Sb.keep | apply Sb.cons))) rfl rfl (rd_indexAddr rfl rfl (by omega) (by omega)) rfl (by kernel_rfl) ?_
          refine xm_gtake 79 (m' := 1208925819614629174706175) rfl (by kernel_rfl) (by first | exact Sb.refl | exact Sb.nil | (repeat (first | exact Sb.nil | exact Sb.refl | apply Sb.keep | apply Sb.cons))) rfl rfl (rd_load1 rfl (hl [_] _ (by omega) (by omega))) rfl (by kernel_rfl) ?_
          refine xm_gtake 80 (m' := 2417851639229258349412351) rfl (by kernel_rfl) (by first | exact Sb.refl | exact Sb.nil | (repeat (first | exact Sb.nil | exact Sb.refl | apply Sb.keep | apply Sb.cons))) rfl rfl (rd_move rfl) rfl (by kernel_rfl) ?_
          refine xm_gtake 81 (m' := 4835703278458516698824703) rfl (by kernel_rfl) (by first | exact Sb.refl | exact Sb.nil | (repeat (first | exact Sb.nil | exact Sb.refl | apply Sb.keep | apply Sb.cons))) rfl rfl (rd_move rfl) rfl (by kernel_rfl) ?_
          refine xm_gtake 82 (m' := 9671406556917033397649407) rfl (by kernel_rfl) (by first | exact Sb.refl | exact Sb.nil | (repeat (first | exact Sb.nil | exact Sb.refl | apply Sb.keep | apply Sb.cons))) rfl rfl (rd_indexAddr rfl rfl (by omega) (by omega)) rfl (by kernel_rfl) ?_
          refine xm_gtake 83 (m' := 19342813113834066795298815) rfl (by kernel_rfl) (by first | exact Sb.refl | exact Sb.nil | (repeat (first | exact Sb.nil | exact Sb.refl | apply Sb.keep | apply Sb.cons))) rfl rfl (rd_load1 rfl (hl [_] _ (by omega) (by omega))) rfl (by kernel_rfl) ?_
          refine xm_gtake 84 (m' := 38685626227668133590597631) rfl (by kernel_rfl) (by first | exact Sb.refl | exact Sb.nil | (repeat (first | exact Sb.nil | exact Sb.refl | apply Sb.keep | apply Sb.cons))) rfl rfl (rd_move rfl) rfl (by kernel_rfl) ?_
          refine xm_gtake 85 (m' := 77371252455336267181195263) rfl (by kernel_rfl) (by first | exact Sb.refl | exact Sb.nil | (repeat (first | exact Sb.nil | exact Sb.refl | apply Sb.keep | apply Sb.cons))) rfl rfl (rd_move rfl) rfl (by kernel_rfl) ?_
          refine xm_gtake 86 (m' := 154742504910672534362390527) rfl (by kernel_rfl) (by first | exact Sb.refl | exact Sb.nil | (repeat (first | exact Sb.nil | exact Sb.refl | apply Sb.keep | apply Sb.cons))) rfl rfl (rd_move rfl) rfl (by kernel_rfl) ?_
          refine xm_gtake 87 (m' := 309485009821345068724781055) rfl (by kernel_rfl) (by first | exact Sb.refl | exact Sb.nil | (repeat (first | exact Sb.nil | exact Sb.refl | apply Sb.keep | apply Sb.cons))) rfl rfl (rd_addn rfl rfl (by omega) (by omega)) rfl (by kernel_rfl) ?_
          refine xm_gtake 88 (m' := 618970019642690137449562111) rfl (by kernel_rfl) (by first | exact Sb.refl | exact Sb.nil | (repeat (first | exact Sb.nil | exact Sb.refl | apply Sb.keep | apply Sb.cons))) rfl rfl (rd_remn rfl rfl (by omega) (by omega)) rfl (by kernel_rfl) ?_
          refine xm_gtake 89 (m' := 1237940039285380274899124223) rfl (by kernel_rfl) (by first | exact Sb.refl | exact Sb.nil | (repeat (first | exact Sb.nil | exact Sb.refl | apply Sb.keep | apply Sb.cons))) rfl rfl (rd_indexAddr rfl rfl (by omega) (by omega)) rfl (by kernel_rfl) ?_
          refine xm_gtake 90 (m' := 2475880078570760549798248447) rfl (by kernel_rfl) (by first | exact Sb.refl | exact Sb.nil | (repeat (first | exact Sb.nil | exact Sb.refl | apply Sb.keep | apply Sb.cons))) rfl rfl (rd_load1 rfl (hl [_] _ (by omega) (by omega))) rfl (by kernel_rfl) ?_
          refine xm_gone 91 (m' := 4951760157141521099596496895) rfl (by kernel_rfl) rfl rfl rfl (by kernel_rfl) (ef_call rfl (XF.mono (xf_any fun W => xf_BucketMost _ _ _ _ (V_rng _ (by omega) (by omega)).1 (V_rng _ (by omega) (by omega)).2 (V_rng _ (by omega) (by omega)).1 (V_rng _ (by omega) (by omega)).2 (V_rng _ (by omega) (by omega)).1 (V_rng _ (by omega) (by omega)).2 (V_rng _ (by omega) (by omega)).1 (V_rng _ (by omega) (by omega)).2) ?_))
          rintro v L' ⟨rfl, rfl⟩
          refine ⟨(by first | exact Sb.refl | exact Sb.nil | (repeat (first | exact Sb.nil | exact Sb.refl | apply Sb.keep | apply Sb.cons))), ?_⟩
          refine xm_gtake 92 (m' := 9903520314283042199192993791) rfl (by kernel_rfl) (by first | exact Sb.refl | exact Sb.nil | (repeat (first | exact Sb.nil | exact Sb.refl | apply Sb.keep | apply Sb.cons))) rfl rfl (rd_not rfl) rfl (by kernel_rfl) ?_
          refine xm_take 93 (m' := 19807040628566084398385987583) rfl (by kernel_rfl) (by first | exact Sb.refl | exact Sb.nil | (repeat (first | exact Sb.nil | exact Sb.refl | apply Sb.keep | apply Sb.cons))) (rd_pickf rfl rfl) rfl (by kernel_rfl) ?_
          refine xm_done (by kernel_rfl) ?_
          refine xq_seq ?_
          refine xc_condf rfl ?_
          refine xc_skip ?_
          refine xq_block ?_
          refine xq_seq ?_
          refine xc_region ?_
          refine xo_rd (rd_move rfl) rfl ?_
          refine xo_rd (rd_addn rfl rfl (by omega) (by omega)) rfl ?_
          refine xo_rd (rd_assign rfl) rfl ?_
          refine xo_nil ?_
        refine xq_tail ?_
        exact xq_roundI (n + 1) (by omega) (by omega) rfl (by repeat (first | exact keep_nil | refine keep_cons rfl ?_))
      · exact xq_roundI (k + 1) (by omega) (by omega) rfl (by repeat (first | exact keep_nil | refine keep_cons rfl ?_))
    · exact xq_roundI (i + 1) (by omega) (by omega) rfl (by repeat (first | exact keep_nil | refine keep_cons rfl ?_))
  · skip
    refine xc_sub (L' := []) (List.nil_sublist _) ?_
    skip
    refine xc_loopI (ι := Nat) (fun n => n ≤ 80) (fun n => 80 - n) (fun _ => []) (fun n => [(6, .int .i64 n)]) 0 (Nat.zero_le _) rfl (by repeat (first | exact keep_nil | refine keep_cons rfl ?_)) ?_
    intro n hn
    focus
      refine xc_seq ?_
      refine xc_seq ?_
      refine xc_region ?_
      refine xo_rd (rd_move rfl) rfl ?_
      refine xo_rd (rd_lss rfl rfl) rfl ?_
      refine xo_nil ?_
      refine xq_seq ?_
      refine xc_dec rfl (fun hn1 => ?_) (fun hn1 => ?_)
      refine xc_skip ?_
      refine xq_seq ?_
      refine xc_seq ?_
      refine xc_block ?_
      refine xc_seq ?_
      refine xc_region ?_
      refine xo_rd (rd_assign rfl) rfl ?_
      refine xo_nil ?_
      refine xq_seq ?_
      refine xc_seq ?_
      refine xc_region ?_
      refine xo_rd (rd_move rfl) rfl ?_
      refine xo_rd (rd_assign rfl) rfl ?_
      refine xo_nil ?_
      refine xq_seq ?_
      refine xc_seq ?_
      refine xc_seq ?_
      refine xc_region ?_
      refine xo_rd (rd_assign rfl) rfl ?_
      refine xo_nil ?_
      refine xq_seq ?_
      refine xc_block ?_
      rotate_left
      refine xc_exit ?_
      refine xq_then_exit ?_
      refine xq_then_exit ?_
      refine xq_block_hit ?_
      refine xq_seq ?_
      refine xc_seq ?_
      refine xc_region ?_
      rotate_left
    · refine xc_loopI (ι := Rn) (fun s => s.i ≤ 20 ∧ 0 ≤ s.k ∧ s.k ≤ 10007 ∧ s.xs.length = s.i ∧ SlO 3 31 s.v s.i (s.xs.flatMap Act.enc) s.l ∧ ∀ x ∈ s.xs, InK .u64 x.f1 ∧ InK .u64 x.f2) (fun s => 20 - s.i) (fun s => s.l) (fun s => [(6, .int .i64 n), (7, s.v), (8, .int .i64 s.k), (9, .int .i64 s.i)]) ⟨0, n, [], .slice none 0 0, []⟩ ⟨Nat.zero_le _, by dsimp only; omega, by dsimp only; omega, rfl, SlO.nil, (fun _ h => by cases h)⟩ rfl (by repeat (first | exact keep_nil | refine keep_cons rfl ?_)) ?_
      rintro ⟨i, k, xs, v, l⟩ ⟨hi, hk0, hk1, hxl, hO, hall⟩
      dsimp only at *
      focus
        refine xc_seq ?_
        refine xc_seq ?_
        refine xc_region ?_
        refine xo_rd (rd_move rfl) rfl ?_
        refine xo_rd (rd_lss rfl rfl) rfl ?_
        refine xo_nil ?_
        refine xq_seq ?_
        refine xc_dec rfl (fun hi1 => ?_) (fun hi1 => ?_)
        refine xc_skip ?_
        refine xq_seq ?_
        refine xc_seq ?_
        refine xc_block ?_
        refine xc_seq ?_
        refine xc_region ?_
        refine xo_rd (rd_move rfl) rfl ?_
        refine xo_rd (rd_move rfl) rfl ?_
        refine xo_rd (rd_remn rfl rfl (by omega) (by omega)) rfl ?_
        refine xo_rd (rd_move rfl) rfl ?_
        refine xo_rd (rd_remn rfl rfl (by omega) (by omega)) rfl ?_
        refine xo_rd (rd_convn rfl (by omega) (by omega)) rfl ?_
        refine xo_rd (rd_move rfl) rfl ?_
        refine xo_rd (rd_move rfl) rfl ?_
        refine xo_rd (rd_remn rfl rfl (by omega) (by omega)) rfl ?_
        refine xo_rd (rd_addn rfl rfl (by omega) (by omega)) rfl ?_
        refine xo_rd (rd_convn rfl (by omega) (by omega)) rfl ?_
        refine xo_rd (rd_build rfl rfl rfl) rfl ?_
        rotate_left
        refine xc_exit ?_
        refine xq_then_exit ?_
        refine xq_then_exit ?_
        refine xq_block_hit ?_
        refine xq_seq ?_
        refine xc_seq ?_
        refine xc_region ?_
        refine xo_rd (rd_move rfl) rfl ?_
        refine xo_rd (rd_remn rfl rfl (by omega) (by omega)) rfl ?_
        refine xo_rd (rd_convn rfl (by omega) (by omega)) rfl ?_
        refine xo_rd (rd_move rfl) rfl ?_
        refine xo_rd (rd_remn rfl rfl (by omega) (by omega)) rfl ?_
        refine xo_rd (rd_addn rfl rfl (by omega) (by omega)) rfl ?_
        refine xo_rd (rd_convn rfl (by omega) (by omega)) rfl ?_
        refine xo_rd (rd_move rfl) rfl ?_
        refine xo_rd (rd_remn rfl rfl (by omega) (by omega)) rfl ?_
        refine xo_rd (rd_convn rfl (by omega) (by omega)) rfl ?_
        refine xo_rd (rd_move rfl) rfl ?_
        refine xo_rd (rd_move rfl) rfl ?_
        refine xo_rd (rd_remn rfl rfl (by omega) (by omega)) rfl ?_
        refine xo_rd (rd_convn rfl (by omega) (by omega)) rfl ?_
        rotate_left
      · refine xo_ef rfl (ef_sliceA (vs := (⟨k % 5, k % 17, i + k % 4⟩ : Act).enc) rfl rfl (by rw [Act.len]; decide) (by rw [Act.len]; decide) fun rs => ?_)
        refine xo_ef rfl (ef_append [_] [] l rfl rfl hO (by rw [List.append_nil]; rfl) (Rs.fresh (List.Mem.head _)) rfl rfl (by decide) (by omega) (by omega) fun v' l' hO' => ?_)
        refine xo_sub (L' := l') (by simp) ?_
        focus
          refine xo_rd (rd_assign rfl) rfl ?_
          refine xo_nil ?_
          refine xq_seq ?_
          refine xc_region ?_
          refine xo_rd (rd_move rfl) rfl ?_
          refine xo_rd (rd_muln rfl rfl (by omega) (by omega)) rfl ?_
          refine xo_rd (rd_move rfl) rfl ?_
          refine xo_rd (rd_muln rfl rfl (by omega) (by omega)) rfl ?_
          refine xo_rd (rd_addn rfl rfl (by omega) (by omega)) rfl ?_
          refine xo_rd (rd_addn rfl rfl (by omega) (by omega)) rfl ?_
          refine xo_rd (rd_remn rfl rfl (by omega) (by omega)) rfl ?_
          refine xo_rd (rd_assign rfl) rfl ?_
          refine xo_nil ?_
          refine xq_block ?_
          refine xq_seq ?_
          refine xc_region ?_
          refine xo_rd (rd_move rfl) rfl ?_
          refine xo_rd (rd_addn rfl rfl (by omega) (by omega)) rfl ?_
          refine xo_rd (rd_assign rfl) rfl ?_
          refine xo_nil ?_
        refine xq_roundI (⟨i + 1, (k * 7 + 5 * i + 3) % 10007, xs ++ [⟨k % 5, k % 17, i + k % 4⟩], v', l'⟩ : Rn) ⟨by dsimp only; omega, by dsimp only; omega, by dsimp only; omega, by simp [hxl], by simpa using hO', fun x hx => ?_⟩ (by dsimp only; omega) rfl (by repeat (first | exact keep_nil | refine keep_cons rfl ?_))
        rcases List.mem_append.1 hx with hx | hx
        · exact hall x hx
        · rw [List.mem_singleton] at hx
          subst hx
          dsimp only
          rw [inK_u64, inK_u64]; omega
      · have hi20 : i = 20 := by omega
        subst hi20
        obtain ⟨p, c, rfl⟩ := hO.val
        focus
          refine xo_ef rfl (ef_call rfl (XF.mono (xf_BucketPlays _ _ _ _ p _ c xs hxl (hO.rs fun _ h => h) hall (by omega) (by unfold top; omega) (by omega) (by unfold top; omega) (by omega) (by unfold top; omega) (by omega) (by unfold top; omega)) ?_))
          rintro v L' ⟨rfl, rfl⟩
          refine xo_rd (rd_not rfl) rfl ?_
          refine xo_rd (rd_move rfl) rfl ?_
          refine xo_grd rfl rfl (rd_move rfl) rfl ?_
          refine xo_grd rfl rfl (rd_remn rfl rfl (by omega) (by omega)) rfl ?_
          refine xo_grd rfl rfl (rd_convn rfl (by omega) (by omega)) rfl ?_
          refine xo_grd rfl rfl (rd_move rfl) rfl ?_
          refine xo_grd rfl rfl (rd_remn rfl rfl (by omega) (by omega)) rfl ?_
          refine xo_grd rfl rfl (rd_addn rfl rfl (by omega) (by omega)) rfl ?_
          refine xo_grd rfl rfl (rd_convn rfl (by omega) (by omega)) rfl ?_
          refine xo_grd rfl rfl (rd_move rfl) rfl ?_
          refine xo_gef rfl rfl rfl (ef_call rfl (XF.mono (xf_BucketBounds _ _ _ p _ c xs hxl (hO.rs fun _ h => h) hall (by omega) (by unfold top; omega) (by omega) (by unfold top; omega) (by omega) (by unfold top; omega)) ?_))
          rintro v L' ⟨rfl, rfl⟩
          refine xo_grd rfl rfl (rd_not rfl) rfl ?_
          refine xo_rd (rd_pickf rfl rfl) rfl ?_
          refine xo_rd (rd_move rfl) rfl ?_
          refine xo_grd rfl rfl (rd_move rfl) rfl ?_
          refine xo_grd rfl rfl (rd_remn rfl rfl (by omega) (by omega)) rfl ?_
          refine xo_grd rfl rfl (rd_convn rfl (by omega) (by omega)) rfl ?_
          refine xo_grd rfl rfl (rd_move rfl) rfl ?_
          refine xo_grd rfl rfl (rd_remn rfl rfl (by omega) (by omega)) rfl ?_
          refine xo_grd rfl rfl (rd_addn rfl rfl (by omega) (by omega)) rfl ?_
          refine xo_grd rfl rfl (rd_convn rfl (by omega) (by omega)) rfl ?_
          refine xo_grd rfl rfl (rd_move rfl) rfl ?_
          refine xo_grd rfl rfl (rd_remn rfl rfl (by omega) (by omega)) rfl ?_
          refine xo_grd rfl rfl (rd_convn rfl (by omega) (by omega)) rfl ?_
          refine xo_grd rfl rfl (rd_move rfl) rfl ?_
          refine xo_grd rfl rfl (rd_remn rfl rfl (by omega) (by omega)) rfl ?_
          refine xo_grd rfl rfl (rd_convn rfl (by omega) (by omega)) rfl ?_
          refine xo_gef rfl rfl rfl (ef_call rfl (XF.mono (xf_any fun W => xf_BucketUntil _ _ _ _ _ (by omega) (by unfold top; omega) (by omega) (by unfold top; omega) (by omega) (by unfold top; omega) (by omega) (by unfold top; omega) (by omega) (by unfold top; omega)) ?_))
          rintro v L' ⟨rfl, rfl⟩
          refine xo_grd rfl rfl (rd_not rfl) rfl ?_
          refine xo_rd (rd_pickf rfl rfl) rfl ?_
          refine xo_nil ?_
          refine xq_seq ?_
          refine xc_condf rfl ?_
          refine xc_skip ?_
          refine xq_block ?_
          refine xq_seq ?_
          refine xc_region ?_
          refine xo_rd (rd_move rfl) rfl ?_
          refine xo_rd (rd_addn rfl rfl (by omega) (by omega)) rfl ?_
          refine xo_rd (rd_assign rfl) rfl ?_
          refine xo_nil ?_
        refine xq_sub (L' := []) (List.nil_sublist _) ?_
        exact xq_roundI (n + 1) (by omega) (by omega) rfl (by repeat (first | exact keep_nil | refine keep_cons rfl ?_))
    · focus
        refine xo_ef rfl (ef_call rfl (XF.mono (xf_any fun W => xf_BucketNone 3 4) ?_))
        rintro v L' ⟨rfl, rfl⟩
        refine xo_rd (rd_move rfl) rfl ?_
        refine xo_gef rfl rfl rfl (ef_call rfl (XF.mono (xf_works) ?_))
        rintro v L' ⟨rfl, rfl⟩
        refine xo_rd (rd_pickt rfl rfl) rfl ?_
        refine xo_rd (rd_assign rfl) rfl ?_
        refine xo_nil ?_
        refine xq_seq ?_
        refine xc_ret ?_
        exact xq_ret1 (.inl rfl) Try.results8 rfl (rfl)
end Go.Proofs.Ytjjbkpfknihkbaa.X
