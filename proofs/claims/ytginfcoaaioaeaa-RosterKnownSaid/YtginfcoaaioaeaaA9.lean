/-
  RosterPlays: a roster has the reference's members, and tells what it should: walks of my own.
-/
import Derived.Test.YtginfcoaaioaeaaA8
namespace Go.Proofs.Ytginfcoaaioaeaa.X
open Go Go.RowKit
set_option linter.unusedVariables false
set_option linter.unusedSimpArgs false
section
variable {W : World} {n : Nat} {L : List Blk} {E : List (Nat × Value)} {d : Option Nat} {t : TypeId} {pos : String} {after : Array Edge} {g : Option (Nat × Bool)}
theorem rd_neSame49 {T' : Nat} {x y : Operand} {a : Mb} (hx : ev E x = some (.agg a.enc.toArray)) (hy : ev E y = some (.agg a.enc.toArray)) : RD Try.prog W n L E ⟨d, .binOp .neq 49 x y T', t, pos, after, g⟩ (.bool false) := by
  have := rd_neMb49 (W := W) (n := n) (L := L) (d := d) (t := t) (pos := pos) (after := after) (g := g) (T' := T') hx hy
  rwa [show decide (a = a) = true from by simp, Bool.not_true] at this
theorem rd_neSameB {P : Program} {T T' : Nat} {x y : Operand} {i : Bool} [hT : Bo P T] (hx : ev E x = some (.bool i)) (hy : ev E y = some (.bool i)) : RD P W n L E ⟨d, .binOp .neq T x y T', t, pos, after, g⟩ (.bool false) := by
  have := rd_neb (P := P) (W := W) (n := n) (L := L) (d := d) (t := t) (pos := pos) (after := after) (g := g) (T := T) (T' := T') hx hy
  simpa using this
end
theorem xf_source {W : World} {L : List Blk} (x : Ro) (hx : x.Ok) (s : Int) : XF Try.prog W 11 #[.pointer (some ⟨x.c, 0, none⟩), .int .u32 s] (x.blks ++ L) (fun v L' => v = .tuple #[.agg ((getSrc x.ms s).getD ⟨0, 0, 0, false⟩).enc.toArray, .bool (decide ((getSrc x.ms s).map Mb.content = some s)), .bool (getSrc x.ms s).isSome] ∧ L' = x.blks ++ L) := by
  cases h : getSrc x.ms s with
  | none => refine XF.mono (xf_source_none x hx s h) ?_; rintro v L' ⟨rfl, rfl⟩; exact ⟨rfl, rfl⟩
  | some m => refine XF.mono (xf_source_some x hx s m h) ?_; rintro v L' ⟨rfl, rfl⟩; exact ⟨by simp, rfl⟩
set_option maxHeartbeats 8000000 in
theorem xf_is {W : World} {R : List Blk} (x : Ro) (hx : x.Ok) (most : Int) (p : Option Addr) (c : Nat) (hr : Rs W R p (x.ms.flatMap Mb.enc)) (id s : Int) : XF Try.prog W 18 #[.pointer (some ⟨x.c, 0, none⟩), .agg #[.int .i64 most, .slice p x.ms.length c], .int .i64 id, .int .u32 s] (x.blks ++ R) (fun v L' => v = .bool true ∧ L' = x.blks ++ R) := by
  have hl := hx.fit.len
  have hl2 := hx.fit.most
  refine xf_enter (args := [_, _, _, _]) Try.func18 rfl Try.ntmps18 rfl ?_
  focus
    refine xc_seq ?_
    refine xc_region ?_
    refine xo_ef rfl (ef_box rfl fun r5 => ?_)
    refine xo_rd (rd_assign rfl) rfl ?_
    refine xo_nil ?_
    refine xq_seq ?_
    refine xc_seq ?_
    refine xc_region ?_
    refine xo_rd (rd_move rfl) rfl ?_
    refine xo_rd (rd_move rfl) rfl ?_
  refine xo_ef rfl (ef_call rfl (XF.mono (XF.seg [_] x.blks R (xf_get x hx id)) ?_))
  rintro v L' ⟨rfl, rfl⟩
  refine xo_seg [_] x.blks R ?_
  generalize hgi : getId x.ms id = gi at *
  focus
    refine xo_rd (rd_move rfl) rfl ?_
    refine xo_rd (rd_extract rfl rfl) rfl ?_
    refine xo_rd (rd_extract rfl rfl) rfl ?_
    refine xo_ef rfl (ef_alloc fun r9 => ?_)
    refine xo_ef rfl (ef_storeB [] _ rfl rfl (by first | rfl | assumption) rfl rfl rfl ?_)
    refine xo_rd (rd_assign rfl) rfl ?_
    refine xo_nil ?_
    refine xq_seq ?_
    refine xc_seq ?_
    refine xc_region ?_
    refine xo_rd (rd_loadB rfl Kn.o1 (by rfl)) rfl ?_
    refine xo_rd (rd_move rfl) rfl ?_
  refine xo_ef rfl (ef_call rfl (XF.mono (xf_rget most x.ms p c (hr.mono (by intro z hz; simp [hz])) (by omega) id) ?_))
  rintro v L' ⟨rfl, rfl⟩
  rw [hgi]
  focus
    refine xo_rd (rd_move rfl) rfl ?_
    refine xo_rd (rd_extract rfl rfl) rfl ?_
    refine xo_rd (rd_extract rfl rfl) rfl ?_
    refine xo_ef rfl (ef_alloc fun r11 => ?_)
    refine xo_ef rfl (ef_storeB [] _ rfl rfl (by first | rfl | assumption) rfl rfl rfl ?_)
    refine xo_rd (rd_assign rfl) rfl ?_
    refine xo_nil ?_
    refine xq_seq ?_
    refine xc_seq ?_
    refine xc_region ?_
    refine xo_rd (rd_move rfl) rfl ?_
    refine xo_rd (rd_move rfl) rfl ?_
  refine xo_ef rfl (ef_call rfl (XF.mono (XF.seg [_, _, _] x.blks R (xf_source x hx s)) ?_))
  rintro v L' ⟨rfl, rfl⟩
  refine xo_seg [_, _, _] x.blks R ?_
  generalize hgs : getSrc x.ms s = gs at *
  focus
    refine xo_rd (rd_move rfl) rfl ?_
    refine xo_rd (rd_extract rfl rfl) rfl ?_
    refine xo_rd (rd_extract rfl rfl) rfl ?_
    refine xo_rd (rd_extract rfl rfl) rfl ?_
    refine xo_ef rfl (ef_alloc fun r13 => ?_)
    refine xo_ef rfl (ef_storeB [] _ rfl rfl (by first | rfl | assumption) rfl rfl rfl ?_)
    refine xo_rd (rd_assign rfl) rfl ?_
    refine xo_rd (rd_assign rfl) rfl ?_
    refine xo_nil ?_
    refine xq_seq ?_
    refine xc_seq ?_
    refine xc_region ?_
    refine xo_rd (rd_loadB rfl Kn.o3 (by rfl)) rfl ?_
    refine xo_rd (rd_move rfl) rfl ?_
  refine xo_ef rfl (ef_call rfl (XF.mono (xf_rsource most x.ms p c (hr.mono (by intro z hz; simp [hz])) (by omega) s) ?_))
  rintro v L' ⟨rfl, rfl⟩
  rw [hgs]
  generalize gi.isSome = bi at *
  generalize gi.getD ⟨0, 0, 0, false⟩ = mi at *
  generalize gs.isSome = bs at *
  generalize decide (gs.map Mb.content = some s) = ow at *
  generalize gs.getD ⟨0, 0, 0, false⟩ = msr at *
  focus
    refine xo_rd (rd_move rfl) rfl ?_
    refine xo_rd (rd_extract rfl rfl) rfl ?_
    refine xo_rd (rd_extract rfl rfl) rfl ?_
    refine xo_rd (rd_extract rfl rfl) rfl ?_
    refine xo_ef rfl (ef_alloc fun r16 => ?_)
    refine xo_ef rfl (ef_storeB [] _ rfl rfl (by first | rfl | assumption) rfl rfl rfl ?_)
    refine xo_rd (rd_assign rfl) rfl ?_
    refine xo_rd (rd_assign rfl) rfl ?_
    refine xo_nil ?_
    refine xq_seq ?_
    refine xc_seq ?_
    refine xc_region ?_
    refine xo_rd (rd_move rfl) rfl ?_
  refine xo_ef rfl (ef_call rfl (XF.mono (XF.seg [_, _, _, _, _] x.blks R (xf_ids x hx)) ?_))
  rintro v L' ⟨p1, k1, l1, rfl, hO1, rfl⟩
  refine xo_permT l1 (R' := [_, _, _, _, _] ++ (x.blks ++ R)) (seg_perm [_, _, _, _, _] x.blks R).symm ?_
  refine xo_seg [_, _, _, _, _] l1 (x.blks ++ R) ?_
  focus
    refine xo_rd (rd_move rfl) rfl ?_
  refine xo_ef rfl (ef_call rfl (XF.mono (XF.seg (_ :: _ :: _ :: _ :: _ :: l1) x.blks R (xf_all x hx)) ?_))
  rintro v L' ⟨p2, k2, l2, rfl, hO2, hk2, rfl⟩
  refine xo_permT l2 (R' := (_ :: _ :: _ :: _ :: _ :: l1) ++ (x.blks ++ R)) (seg_perm (_ :: _ :: _ :: _ :: _ :: l1) x.blks R).symm ?_
  refine xo_seg (_ :: _ :: _ :: _ :: _ :: l1) l2 (x.blks ++ R) ?_
  focus
    refine xo_rd (rd_assign rfl) rfl ?_
    refine xo_rd (rd_assign rfl) rfl ?_
    refine xo_nil ?_
    refine xq_seq ?_
    refine xc_seq ?_
    refine xc_seq ?_
    refine xc_drawML [0, 1, 0, 6, 10, 16, 16, 112, 144, 272, 512, 1536, 512, 6656, 8704, 18432, 32768, 32768, 229376, 294912, 557056, 1048576, 1048576, 7340032, 9437184, 17825792, 33554432, 100663296, 33554432, 301989888, 570425344, 1241513984, 2181038080, 4328521728, 8589934592, 25769803776, 8589934592, 77309411328, 146028888064, 317827579904, 558345748480, 1108101562368, 2199023255552, 6597069766656, 2199023255552, 19791209299968, 37383395344384, 81363860455424, 142936511610880] [0, 1, 0, 6, 10, 16, 16, 112, 144, 272, 512, 1536, 512, 6656, 8704, 18432, 32768, 32768, 229376, 294912, 557056, 1048576, 1048576, 7340032, 9437184, 17825792, 33554432, 100663296, 33554432, 301989888, 570425344, 1241513984, 2181038080, 4328521728, 8589934592, 25769803776, 8589934592, 77309411328, 146028888064, 317827579904, 558345748480, 1108101562368, 2199023255552, 6597069766656, 2199023255552, 19791209299968, 37383395344384, 81363860455424, 142936511610880] (by kernel_rfl) (by kernel_rfl) (by kernel_rfl) ?_
    refine xm_take 0 (m' := 1) rfl (by kernel_rfl) (by first | exact Sb.refl | exact Sb.nil | (repeat (first | exact Sb.nil | exact Sb.refl | exact Sb.app0 | apply Sb.keep | apply Sb.keepApp | apply Sb.cons | apply Sb.app))) (rd_loadB rfl Kn.o3 (by rfl)) rfl (by kernel_rfl) ?_
    refine xm_take 2 (m' := 5) rfl (by kernel_rfl) (by first | exact Sb.refl | exact Sb.nil | (repeat (first | exact Sb.nil | exact Sb.refl | exact Sb.app0 | apply Sb.keep | apply Sb.keepApp | apply Sb.cons | apply Sb.app))) (rd_loadB rfl Kn.o2 (by rfl)) rfl (by kernel_rfl) ?_
    refine xm_one 1 (m' := 7) rfl (by kernel_rfl) rfl (by kernel_rfl) (ef_call rfl (XF.mono (xf_conv mi) ?_))
    rintro v L' ⟨rfl, rfl⟩
    refine ⟨(by first | exact Sb.refl | exact Sb.nil | (repeat (first | exact Sb.nil | exact Sb.refl | exact Sb.app0 | apply Sb.keep | apply Sb.keepApp | apply Sb.cons | apply Sb.app))), ?_⟩
    refine xm_take 3 (m' := 15) rfl (by kernel_rfl) (by first | exact Sb.refl | exact Sb.nil | (repeat (first | exact Sb.nil | exact Sb.refl | exact Sb.app0 | apply Sb.keep | apply Sb.keepApp | apply Sb.cons | apply Sb.app))) (rd_neSame49 (a := mi) rfl rfl) rfl (by kernel_rfl) ?_
    refine xm_take 4 (m' := 31) rfl (by kernel_rfl) (by first | exact Sb.refl | exact Sb.nil | (repeat (first | exact Sb.nil | exact Sb.refl | exact Sb.app0 | apply Sb.keep | apply Sb.keepApp | apply Sb.cons | apply Sb.app))) (rd_move rfl) rfl (by kernel_rfl) ?_
    refine xm_gtake 5 (m' := 63) rfl (by kernel_rfl) (by first | exact Sb.refl | exact Sb.nil | (repeat (first | exact Sb.nil | exact Sb.refl | exact Sb.app0 | apply Sb.keep | apply Sb.keepApp | apply Sb.cons | apply Sb.app))) rfl rfl (rd_move rfl) rfl (by kernel_rfl) ?_
    refine xm_gtake 6 (m' := 127) rfl (by kernel_rfl) (by first | exact Sb.refl | exact Sb.nil | (repeat (first | exact Sb.nil | exact Sb.refl | exact Sb.app0 | apply Sb.keep | apply Sb.keepApp | apply Sb.cons | apply Sb.app))) rfl rfl (rd_move rfl) rfl (by kernel_rfl) ?_
    refine xm_gtake 7 (m' := 255) rfl (by kernel_rfl) (by first | exact Sb.refl | exact Sb.nil | (repeat (first | exact Sb.nil | exact Sb.refl | exact Sb.app0 | apply Sb.keep | apply Sb.keepApp | apply Sb.cons | apply Sb.app))) rfl rfl (rd_neSameB (i := bi) rfl rfl) rfl (by kernel_rfl) ?_
    refine xm_take 8 (m' := 511) rfl (by kernel_rfl) (by first | exact Sb.refl | exact Sb.nil | (repeat (first | exact Sb.nil | exact Sb.refl | exact Sb.app0 | apply Sb.keep | apply Sb.keepApp | apply Sb.cons | apply Sb.app))) (rd_pickf rfl rfl) rfl (by kernel_rfl) ?_
    refine xm_take 9 (m' := 1023) rfl (by kernel_rfl) (by first | exact Sb.refl | exact Sb.nil | (repeat (first | exact Sb.nil | exact Sb.refl | exact Sb.app0 | apply Sb.keep | apply Sb.keepApp | apply Sb.cons | apply Sb.app))) (rd_move rfl) rfl (by kernel_rfl) ?_
    refine xm_gtake 10 (m' := 2047) rfl (by kernel_rfl) (by first | exact Sb.refl | exact Sb.nil | (repeat (first | exact Sb.nil | exact Sb.refl | exact Sb.app0 | apply Sb.keep | apply Sb.keepApp | apply Sb.cons | apply Sb.app))) rfl rfl (rd_loadB rfl Kn.o1 (by rfl)) rfl (by kernel_rfl) ?_
    refine xm_gtake 12 (m' := 6143) rfl (by kernel_rfl) (by first | exact Sb.refl | exact Sb.nil | (repeat (first | exact Sb.nil | exact Sb.refl | exact Sb.app0 | apply Sb.keep | apply Sb.keepApp | apply Sb.cons | apply Sb.app))) rfl rfl (rd_loadB rfl Kn.o0 (by rfl)) rfl (by kernel_rfl) ?_
    refine xm_gone 11 (m' := 8191) rfl (by kernel_rfl) rfl rfl rfl (by kernel_rfl) (ef_call rfl (XF.mono (xf_conv msr) ?_))
    rintro v L' ⟨rfl, rfl⟩
    refine ⟨(by first | exact Sb.refl | exact Sb.nil | (repeat (first | exact Sb.nil | exact Sb.refl | exact Sb.app0 | apply Sb.keep | apply Sb.keepApp | apply Sb.cons | apply Sb.app))), ?_⟩
    refine xm_gtake 13 (m' := 16383) rfl (by kernel_rfl) (by first | exact Sb.refl | exact Sb.nil | (repeat (first | exact Sb.nil | exact Sb.refl | exact Sb.app0 | apply Sb.keep | apply Sb.keepApp | apply Sb.cons | apply Sb.app))) rfl rfl (rd_neSame49 (a := msr) rfl rfl) rfl (by kernel_rfl) ?_
    refine xm_take 14 (m' := 32767) rfl (by kernel_rfl) (by first | exact Sb.refl | exact Sb.nil | (repeat (first | exact Sb.nil | exact Sb.refl | exact Sb.app0 | apply Sb.keep | apply Sb.keepApp | apply Sb.cons | apply Sb.app))) (rd_pickf rfl rfl) rfl (by kernel_rfl) ?_
    refine xm_take 15 (m' := 65535) rfl (by kernel_rfl) (by first | exact Sb.refl | exact Sb.nil | (repeat (first | exact Sb.nil | exact Sb.refl | exact Sb.app0 | apply Sb.keep | apply Sb.keepApp | apply Sb.cons | apply Sb.app))) (rd_move rfl) rfl (by kernel_rfl) ?_
    refine xm_gtake 16 (m' := 131071) rfl (by kernel_rfl) (by first | exact Sb.refl | exact Sb.nil | (repeat (first | exact Sb.nil | exact Sb.refl | exact Sb.app0 | apply Sb.keep | apply Sb.keepApp | apply Sb.cons | apply Sb.app))) rfl rfl (rd_move rfl) rfl (by kernel_rfl) ?_
    refine xm_gtake 17 (m' := 262143) rfl (by kernel_rfl) (by first | exact Sb.refl | exact Sb.nil | (repeat (first | exact Sb.nil | exact Sb.refl | exact Sb.app0 | apply Sb.keep | apply Sb.keepApp | apply Sb.cons | apply Sb.app))) rfl rfl (rd_move rfl) rfl (by kernel_rfl) ?_
    refine xm_gtake 18 (m' := 524287) rfl (by kernel_rfl) (by first | exact Sb.refl | exact Sb.nil | (repeat (first | exact Sb.nil | exact Sb.refl | exact Sb.app0 | apply Sb.keep | apply Sb.keepApp | apply Sb.cons | apply Sb.app))) rfl rfl (rd_neSameB (i := ow) rfl rfl) rfl (by kernel_rfl) ?_
    refine xm_take 19 (m' := 1048575) rfl (by kernel_rfl) (by first | exact Sb.refl | exact Sb.nil | (repeat (first | exact Sb.nil | exact Sb.refl | exact Sb.app0 | apply Sb.keep | apply Sb.keepApp | apply Sb.cons | apply Sb.app))) (rd_pickf rfl rfl) rfl (by kernel_rfl) ?_
    refine xm_take 20 (m' := 2097151) rfl (by kernel_rfl) (by first | exact Sb.refl | exact Sb.nil | (repeat (first | exact Sb.nil | exact Sb.refl | exact Sb.app0 | apply Sb.keep | apply Sb.keepApp | apply Sb.cons | apply Sb.app))) (rd_move rfl) rfl (by kernel_rfl) ?_
    refine xm_gtake 21 (m' := 4194303) rfl (by kernel_rfl) (by first | exact Sb.refl | exact Sb.nil | (repeat (first | exact Sb.nil | exact Sb.refl | exact Sb.app0 | apply Sb.keep | apply Sb.keepApp | apply Sb.cons | apply Sb.app))) rfl rfl (rd_move rfl) rfl (by kernel_rfl) ?_
    refine xm_gtake 22 (m' := 8388607) rfl (by kernel_rfl) (by first | exact Sb.refl | exact Sb.nil | (repeat (first | exact Sb.nil | exact Sb.refl | exact Sb.app0 | apply Sb.keep | apply Sb.keepApp | apply Sb.cons | apply Sb.app))) rfl rfl (rd_move rfl) rfl (by kernel_rfl) ?_
    refine xm_gtake 23 (m' := 16777215) rfl (by kernel_rfl) (by first | exact Sb.refl | exact Sb.nil | (repeat (first | exact Sb.nil | exact Sb.refl | exact Sb.app0 | apply Sb.keep | apply Sb.keepApp | apply Sb.cons | apply Sb.app))) rfl rfl (rd_neSameB (i := bs) rfl rfl) rfl (by kernel_rfl) ?_
    refine xm_take 24 (m' := 33554431) rfl (by kernel_rfl) (by first | exact Sb.refl | exact Sb.nil | (repeat (first | exact Sb.nil | exact Sb.refl | exact Sb.app0 | apply Sb.keep | apply Sb.keepApp | apply Sb.cons | apply Sb.app))) (rd_pickf rfl rfl) rfl (by kernel_rfl) ?_
    refine xm_take 25 (m' := 67108863) rfl (by kernel_rfl) (by first | exact Sb.refl | exact Sb.nil | (repeat (first | exact Sb.nil | exact Sb.refl | exact Sb.app0 | apply Sb.keep | apply Sb.keepApp | apply Sb.cons | apply Sb.app))) (rd_move rfl) rfl (by kernel_rfl) ?_
    refine xm_gtake 26 (m' := 134217727) rfl (by kernel_rfl) (by first | exact Sb.refl | exact Sb.nil | (repeat (first | exact Sb.nil | exact Sb.refl | exact Sb.app0 | apply Sb.keep | apply Sb.keepApp | apply Sb.cons | apply Sb.app))) rfl rfl (rd_move rfl) rfl (by kernel_rfl) ?_
    refine xm_gtake 27 (m' := 268435455) rfl (by kernel_rfl) (by first | exact Sb.refl | exact Sb.nil | (repeat (first | exact Sb.nil | exact Sb.refl | exact Sb.app0 | apply Sb.keep | apply Sb.keepApp | apply Sb.cons | apply Sb.app))) rfl rfl (rd_len rfl) rfl (by kernel_rfl) ?_
    refine xm_gtake 28 (m' := 536870911) rfl (by kernel_rfl) (by first | exact Sb.refl | exact Sb.nil | (repeat (first | exact Sb.nil | exact Sb.refl | exact Sb.app0 | apply Sb.keep | apply Sb.keepApp | apply Sb.cons | apply Sb.app))) rfl rfl (rd_fieldAddr rfl) rfl (by kernel_rfl) ?_
    refine xm_gtake 29 (m' := 1073741823) rfl (by kernel_rfl) (by first | exact Sb.refl | exact Sb.nil | (repeat (first | exact Sb.nil | exact Sb.refl | exact Sb.app0 | apply Sb.keep | apply Sb.keepApp | apply Sb.cons | apply Sb.app))) rfl rfl (rd_load1 rfl (Cl.o4 rfl)) rfl (by kernel_rfl) ?_
    refine xm_gtake 30 (m' := 2147483647) rfl (by kernel_rfl) (by first | exact Sb.refl | exact Sb.nil | (repeat (first | exact Sb.nil | exact Sb.refl | exact Sb.app0 | apply Sb.keep | apply Sb.keepApp | apply Sb.cons | apply Sb.app))) rfl rfl (rd_len rfl) rfl (by kernel_rfl) ?_
    refine xm_gtake 31 (m' := 4294967295) rfl (by kernel_rfl) (by first | exact Sb.refl | exact Sb.nil | (repeat (first | exact Sb.nil | exact Sb.refl | exact Sb.app0 | apply Sb.keep | apply Sb.keepApp | apply Sb.cons | apply Sb.app))) rfl rfl (rd_neq rfl rfl) rfl (by kernel_rfl) ?_
    refine xm_take 32 (m' := 8589934591) rfl (by kernel_rfl) (by first | exact Sb.refl | exact Sb.nil | (repeat (first | exact Sb.nil | exact Sb.refl | exact Sb.app0 | apply Sb.keep | apply Sb.keepApp | apply Sb.cons | apply Sb.app))) (rd_pickf rfl rfl) rfl (by kernel_rfl) ?_
    refine xm_take 33 (m' := 17179869183) rfl (by kernel_rfl) (by first | exact Sb.refl | exact Sb.nil | (repeat (first | exact Sb.nil | exact Sb.refl | exact Sb.app0 | apply Sb.keep | apply Sb.keepApp | apply Sb.cons | apply Sb.app))) (rd_move rfl) rfl (by kernel_rfl) ?_
    refine xm_ndec 85 rfl (fun h => absurd rfl h) (fun _ => ?_)
    refine xm_gtake 34 (m' := 34359738367) rfl (by kernel_rfl) (by first | exact Sb.refl | exact Sb.nil | (repeat (first | exact Sb.nil | exact Sb.refl | exact Sb.app0 | apply Sb.keep | apply Sb.keepApp | apply Sb.cons | apply Sb.app))) rfl rfl (rd_move rfl) rfl (by kernel_rfl) ?_
    refine xm_gtake 35 (m' := 68719476735) rfl (by kernel_rfl) (by first | exact Sb.refl | exact Sb.nil | (repeat (first | exact Sb.nil | exact Sb.refl | exact Sb.app0 | apply Sb.keep | apply Sb.keepApp | apply Sb.cons | apply Sb.app))) rfl rfl (rd_len rfl) rfl (by kernel_rfl) ?_
    refine xm_gtake 36 (m' := 137438953471) rfl (by kernel_rfl) (by first | exact Sb.refl | exact Sb.nil | (repeat (first | exact Sb.nil | exact Sb.refl | exact Sb.app0 | apply Sb.keep | apply Sb.keepApp | apply Sb.cons | apply Sb.app))) rfl rfl (rd_fieldAddr rfl) rfl (by kernel_rfl) ?_
    refine xm_gtake 37 (m' := 274877906943) rfl (by kernel_rfl) (by first | exact Sb.refl | exact Sb.nil | (repeat (first | exact Sb.nil | exact Sb.refl | exact Sb.app0 | apply Sb.keep | apply Sb.keepApp | apply Sb.cons | apply Sb.app))) rfl rfl (rd_load1 rfl (Cl.o4 rfl)) rfl (by kernel_rfl) ?_
    refine xm_gtake 38 (m' := 549755813887) rfl (by kernel_rfl) (by first | exact Sb.refl | exact Sb.nil | (repeat (first | exact Sb.nil | exact Sb.refl | exact Sb.app0 | apply Sb.keep | apply Sb.keepApp | apply Sb.cons | apply Sb.app))) rfl rfl (rd_len rfl) rfl (by kernel_rfl) ?_
    refine xm_gtake 39 (m' := 1099511627775) rfl (by kernel_rfl) (by first | exact Sb.refl | exact Sb.nil | (repeat (first | exact Sb.nil | exact Sb.refl | exact Sb.app0 | apply Sb.keep | apply Sb.keepApp | apply Sb.cons | apply Sb.app))) rfl rfl (rd_neq rfl rfl) rfl (by kernel_rfl) ?_
    refine xm_take 40 (m' := 2199023255551) rfl (by kernel_rfl) (by first | exact Sb.refl | exact Sb.nil | (repeat (first | exact Sb.nil | exact Sb.refl | exact Sb.app0 | apply Sb.keep | apply Sb.keepApp | apply Sb.cons | apply Sb.app))) (rd_pickf rfl rfl) rfl (by kernel_rfl) ?_
    refine xm_take 41 (m' := 4398046511103) rfl (by kernel_rfl) (by first | exact Sb.refl | exact Sb.nil | (repeat (first | exact Sb.nil | exact Sb.refl | exact Sb.app0 | apply Sb.keep | apply Sb.keepApp | apply Sb.cons | apply Sb.app))) (rd_move rfl) rfl (by kernel_rfl) ?_
    refine xm_ndec 93 rfl (fun h => absurd rfl h) (fun _ => ?_)
    refine xm_gtake 42 (m' := 8796093022207) rfl (by kernel_rfl) (by first | exact Sb.refl | exact Sb.nil | (repeat (first | exact Sb.nil | exact Sb.refl | exact Sb.app0 | apply Sb.keep | apply Sb.keepApp | apply Sb.cons | apply Sb.app))) rfl rfl (rd_move rfl) rfl (by kernel_rfl) ?_
    refine xm_gtake 44 (m' := 26388279066623) rfl (by kernel_rfl) (by first | exact Sb.refl | exact Sb.nil | (repeat (first | exact Sb.nil | exact Sb.refl | exact Sb.app0 | apply Sb.keep | apply Sb.keepApp | apply Sb.cons | apply Sb.app))) rfl rfl (rd_fieldAddr rfl) rfl (by kernel_rfl) ?_
    refine xm_gtake 45 (m' := 61572651155455) rfl (by kernel_rfl) (by first | exact Sb.refl | exact Sb.nil | (repeat (first | exact Sb.nil | exact Sb.refl | exact Sb.app0 | apply Sb.keep | apply Sb.keepApp | apply Sb.cons | apply Sb.app))) rfl rfl (rd_load1 rfl (Cl.o4 rfl)) rfl (by kernel_rfl) ?_
    refine xm_gtake 46 (m' := 131941395333119) rfl (by kernel_rfl) (by first | exact Sb.refl | exact Sb.nil | (repeat (first | exact Sb.nil | exact Sb.refl | exact Sb.app0 | apply Sb.keep | apply Sb.keepApp | apply Sb.cons | apply Sb.app))) rfl rfl (rd_len rfl) rfl (by kernel_rfl) ?_
    refine xm_gone 43 (m' := 140737488355327) rfl (by kernel_rfl) rfl rfl rfl (by kernel_rfl) (ef_call rfl (XF.mono (XF.perm (xf_len (L := (r16, .cells msr.enc.toArray 49 (0, 0)) :: (r13, .cells msr.enc.toArray 31 (0, 0)) :: (r11, .cells mi.enc.toArray 49 (0, 0)) :: (r9, .cells mi.enc.toArray 31 (0, 0)) :: (r5, .cells (Value.agg #[.int .i64 most, .slice p x.ms.length c]).cells 44 (0, 0)) :: (l1 ++ (l2 ++ R))) x hx) (by classical exact List.perm_iff_count.2 fun a => by simp only [List.append_eq, List.count_append, List.count_cons, List.count_nil, List.cons_append, List.nil_append, List.flatMap_append, List.flatMap_cons, List.flatMap_nil, List.append_nil]; omega)) ?_))
    rintro v L' ⟨rfl, rfl⟩
    refine xmx_perm (L' := (r16, .cells msr.enc.toArray 49 (0, 0)) :: (r13, .cells msr.enc.toArray 31 (0, 0)) :: (r11, .cells mi.enc.toArray 49 (0, 0)) :: (r9, .cells mi.enc.toArray 31 (0, 0)) :: (r5, .cells (Value.agg #[.int .i64 most, .slice p x.ms.length c]).cells 44 (0, 0)) :: (l1 ++ (l2 ++ (x.blks ++ R)))) (by classical exact List.perm_iff_count.2 fun a => by simp only [List.append_eq, List.count_append, List.count_cons, List.count_nil, List.cons_append, List.nil_append, List.flatMap_append, List.flatMap_cons, List.flatMap_nil, List.append_nil]; omega) ?_
    refine ⟨(by first | exact Sb.refl | exact Sb.nil | (repeat (first | exact Sb.nil | exact Sb.refl | exact Sb.app0 | apply Sb.keep | apply Sb.keepApp | apply Sb.cons | apply Sb.app))), ?_⟩
    refine xm_gtake 47 (m' := 281474976710655) rfl (by kernel_rfl) (by first | exact Sb.refl | exact Sb.nil | (repeat (first | exact Sb.nil | exact Sb.refl | exact Sb.app0 | apply Sb.keep | apply Sb.keepApp | apply Sb.cons | apply Sb.app))) rfl rfl (rd_neq rfl rfl) rfl (by kernel_rfl) ?_
    refine xm_take 48 (m' := 562949953421311) rfl (by kernel_rfl) (by first | exact Sb.refl | exact Sb.nil | (repeat (first | exact Sb.nil | exact Sb.refl | exact Sb.app0 | apply Sb.keep | apply Sb.keepApp | apply Sb.cons | apply Sb.app))) (rd_pickf rfl rfl) rfl (by kernel_rfl) ?_
    refine xm_done (by kernel_rfl) ?_
    refine xq_seq ?_
    refine xc_ndec rfl (fun h => absurd rfl h) (fun _ => ?_)
    refine xc_skip ?_
    refine xq_seq ?_
    refine xc_seq ?_
    refine xc_seq ?_
    refine xc_region ?_
    refine xo_rd (rd_assign rfl) rfl ?_
    refine xo_nil ?_
    refine xq_seq ?_
    refine xc_block ?_
  refine xc_sub (L' := (r5, .cells #[.int .i64 most, .slice p x.ms.length c] 44 (0, 0)) :: (l1 ++ (l2 ++ (x.blks ++ R)))) (List.sublist_append_right [_, _, _, _] _) ?_
  refine xc_loopI (ι := Nat × List Value × List Blk × List Value × List Blk) (fun s => s.1 ≤ x.ms.length ∧ SlO 1 3 (.slice p1 x.ms.length k1) x.ms.length s.2.1 s.2.2.1 ∧ s.2.1.drop s.1 = (ints .i64 (x.ms.map Mb.id)).drop s.1 ∧ SlO 4 31 (.slice p2 x.ms.length k2) x.ms.length s.2.2.2.1 s.2.2.2.2 ∧ s.2.2.2.1.drop (s.1 * 4) = (x.ms.flatMap Mb.enc).drop (s.1 * 4)) (fun s => x.ms.length - s.1) (fun s => (r5, .cells #[.int .i64 most, .slice p x.ms.length c] 44 (0, 0)) :: (s.2.2.1 ++ (s.2.2.2.2 ++ (x.blks ++ R)))) (fun s => [(0, .pointer (some ⟨x.c, 0, none⟩)), (5, .pointer (some ⟨r5, 0, none⟩)), (19, .slice p1 x.ms.length k1), (20, .slice p2 x.ms.length k2), (21, .int .i64 s.1)]) (0, ints .i64 (x.ms.map Mb.id), l1, x.ms.flatMap Mb.enc, l2) ⟨Nat.zero_le _, hO1, rfl, hO2, rfl⟩ rfl (by repeat (first | exact keep_nil | refine keep_cons rfl ?_)) ?_
  rintro ⟨i, xs, l, ys, lb⟩ ⟨hi, hO, hd, hP, he⟩
  dsimp only at hi hO hd hP he ⊢
  focus
    refine xc_seq ?_
    refine xc_seq ?_
    refine xc_region ?_
    refine xo_rd (rd_move rfl) rfl ?_
    refine xo_rd (rd_move rfl) rfl ?_
    refine xo_rd (rd_len rfl) rfl ?_
    refine xo_rd (rd_lss rfl rfl) rfl ?_
    refine xo_nil ?_
    refine xq_seq ?_
    refine xc_dec rfl (fun hi1 => ?_) (fun hi1 => ?_)
    refine xc_skip ?_
    refine xq_seq ?_
    refine xc_seq ?_
    refine xc_block ?_
    refine xc_seq ?_
    refine xc_seq ?_
    refine xc_drawML [0, 0, 3, 4, 0, 16, 0, 96, 128, 256, 520, 1024, 2048, 2048, 14336, 18432, 34816, 2048, 133120, 2048, 788480, 1050624, 2164736, 4196352] [0, 0, 3, 4, 0, 16, 0, 96, 128, 256, 520, 1024, 2048, 2048, 14336, 18432, 34816, 2048, 133120, 2048, 788480, 1050624, 2164736, 4196352] (by kernel_rfl) (by kernel_rfl) (by kernel_rfl) ?_
    refine xm_take 0 (m' := 1) rfl (by kernel_rfl) (by first | exact Sb.refl | exact Sb.nil | (repeat (first | exact Sb.nil | exact Sb.refl | exact Sb.app0 | apply Sb.keep | apply Sb.keepApp | apply Sb.cons | apply Sb.app))) (rd_move rfl) rfl (by kernel_rfl) ?_
    refine xm_take 1 (m' := 3) rfl (by kernel_rfl) (by first | exact Sb.refl | exact Sb.nil | (repeat (first | exact Sb.nil | exact Sb.refl | exact Sb.app0 | apply Sb.keep | apply Sb.keepApp | apply Sb.cons | apply Sb.app))) (rd_move rfl) rfl (by kernel_rfl) ?_
    refine xm_take 4 (m' := 19) rfl (by kernel_rfl) (by first | exact Sb.refl | exact Sb.nil | (repeat (first | exact Sb.nil | exact Sb.refl | exact Sb.app0 | apply Sb.keep | apply Sb.keepApp | apply Sb.cons | apply Sb.app))) (rd_fieldAddr rfl) rfl (by kernel_rfl) ?_
    refine xm_take 5 (m' := 51) rfl (by kernel_rfl) (by first | exact Sb.refl | exact Sb.nil | (repeat (first | exact Sb.nil | exact Sb.refl | exact Sb.app0 | apply Sb.keep | apply Sb.keepApp | apply Sb.cons | apply Sb.app))) (rd_load1 rfl (Cl.o0 rfl)) rfl (by kernel_rfl) ?_
    refine xm_take 6 (m' := 115) rfl (by kernel_rfl) (by first | exact Sb.refl | exact Sb.nil | (repeat (first | exact Sb.nil | exact Sb.refl | exact Sb.app0 | apply Sb.keep | apply Sb.keepApp | apply Sb.cons | apply Sb.app))) (rd_move rfl) rfl (by kernel_rfl) ?_
    rotate_left
    refine xc_exit ?_
    refine xq_then_exit ?_
    refine xq_then_exit ?_
    refine xq_block_hit ?_
    refine xq_seq ?_
    refine xc_seq ?_
    refine xc_region ?_
    refine xo_rd (rd_assign rfl) rfl ?_
    refine xo_nil ?_
    refine xq_seq ?_
    refine xc_ret ?_
    rotate_left
  · have hir : i < x.ms.length := by omega
    have hxl := hO.len
    have hyl := hP.len
    have hxi : xs[i]? = some (.int .i64 x.ms[i].id) := by
      have h1 := congrArg (fun z => z[0]?) hd
      simp only [List.getElem?_drop, Nat.add_zero] at h1
      rw [h1]
      simp [ints, hir]
    have hyi : ∀ j u, x.ms[i].enc[j]? = some u → ys[i * 4 + j]? = some u := fun j u hj => by
      have h1 := congrArg (fun z => z[j]?) he
      simp only [List.getElem?_drop] at h1
      rw [h1]
      exact flat_get Mb.enc Mb.len x.ms i _ (List.getElem?_eq_getElem hir) j u hj
    obtain ⟨b, o, hp1, hc1⟩ := (hO.rs (W := W) (L := (r5, .cells #[.int .i64 most, .slice p x.ms.length c] 44 (0, 0)) :: (l ++ (lb ++ (x.blks ++ R)))) (by intro z hz; simp [hz])).at (j := i) (by rw [hxl]; omega)
    subst hp1
    have k1' : Cl W ((r5, .cells #[.int .i64 most, .slice p x.ms.length c] 44 (0, 0)) :: (l ++ (lb ++ (x.blks ++ R)))) b (o + i * 1) (.int .i64 x.ms[i].id) := by rw [Nat.mul_one]; exact hc1 i _ hxi
    obtain ⟨b2, o2, hp2, hc2⟩ := (hP.rs (W := W) (L := (r5, .cells #[.int .i64 most, .slice p x.ms.length c] 44 (0, 0)) :: (l ++ (lb ++ (x.blks ++ R)))) (by intro z hz; simp [hz])).at (j := i * 4) (by rw [hyl]; omega)
    subst hp2
    have k2' : ∀ j u, x.ms[i].enc[j]? = some u → Cl W ((r5, .cells #[.int .i64 most, .slice p x.ms.length c] 44 (0, 0)) :: (l ++ (lb ++ (x.blks ++ R)))) b2 (o2 + i * 4 + j) u := fun j u hj => by rw [Nat.add_assoc]; exact hc2 _ u (hyi j u hj)
    obtain ⟨b3, o3, hp3, hc3⟩ := (hr.mono (L' := (r5, .cells #[.int .i64 most, .slice p x.ms.length c] 44 (0, 0)) :: (l ++ (lb ++ (x.blks ++ R)))) (by intro z hz; simp [hz])).row Mb.len (by decide) hir
    subst hp3
    focus
      refine xm_take 2 (m' := 119) rfl (by kernel_rfl) (by first | exact Sb.refl | exact Sb.nil | (repeat (first | exact Sb.nil | exact Sb.refl | exact Sb.app0 | apply Sb.keep | apply Sb.keepApp | apply Sb.cons | apply Sb.app))) (rd_indexAddr rfl rfl (by omega) (by omega)) rfl (by kernel_rfl) ?_
      refine xm_take 3 (m' := 127) rfl (by kernel_rfl) (by first | exact Sb.refl | exact Sb.nil | (repeat (first | exact Sb.nil | exact Sb.refl | exact Sb.app0 | apply Sb.keep | apply Sb.keepApp | apply Sb.cons | apply Sb.app))) (rd_load1 rfl k1') rfl (by kernel_rfl) ?_
      refine xm_take 7 (m' := 255) rfl (by kernel_rfl) (by first | exact Sb.refl | exact Sb.nil | (repeat (first | exact Sb.nil | exact Sb.refl | exact Sb.app0 | apply Sb.keep | apply Sb.keepApp | apply Sb.cons | apply Sb.app))) (rd_indexAddr rfl rfl (by omega) (by omega)) rfl (by kernel_rfl) ?_
      refine xm_take 8 (m' := 511) rfl (by kernel_rfl) (by first | exact Sb.refl | exact Sb.nil | (repeat (first | exact Sb.nil | exact Sb.refl | exact Sb.app0 | apply Sb.keep | apply Sb.keepApp | apply Sb.cons | apply Sb.app))) (rd_fieldAddr rfl) rfl (by kernel_rfl) ?_
      refine xm_take 9 (m' := 1023) rfl (by kernel_rfl) (by first | exact Sb.refl | exact Sb.nil | (repeat (first | exact Sb.nil | exact Sb.refl | exact Sb.app0 | apply Sb.keep | apply Sb.keepApp | apply Sb.cons | apply Sb.app))) (rd_load1 rfl (hc3 0 _ rfl)) rfl (by kernel_rfl) ?_
      refine xm_take 10 (m' := 2047) rfl (by kernel_rfl) (by first | exact Sb.refl | exact Sb.nil | (repeat (first | exact Sb.nil | exact Sb.refl | exact Sb.app0 | apply Sb.keep | apply Sb.keepApp | apply Sb.cons | apply Sb.app))) (rd_neq rfl rfl) rfl (by kernel_rfl) ?_
      refine xm_take 11 (m' := 4095) rfl (by kernel_rfl) (by first | exact Sb.refl | exact Sb.nil | (repeat (first | exact Sb.nil | exact Sb.refl | exact Sb.app0 | apply Sb.keep | apply Sb.keepApp | apply Sb.cons | apply Sb.app))) (rd_move rfl) rfl (by kernel_rfl) ?_
      refine xm_ndec 118 rfl (fun h => absurd rfl h) (fun _ => ?_)
      refine xm_gtake 12 (m' := 8191) rfl (by kernel_rfl) (by first | exact Sb.refl | exact Sb.nil | (repeat (first | exact Sb.nil | exact Sb.refl | exact Sb.app0 | apply Sb.keep | apply Sb.keepApp | apply Sb.cons | apply Sb.app))) rfl rfl (rd_move rfl) rfl (by kernel_rfl) ?_
      refine xm_gtake 13 (m' := 16383) rfl (by kernel_rfl) (by first | exact Sb.refl | exact Sb.nil | (repeat (first | exact Sb.nil | exact Sb.refl | exact Sb.app0 | apply Sb.keep | apply Sb.keepApp | apply Sb.cons | apply Sb.app))) rfl rfl (rd_move rfl) rfl (by kernel_rfl) ?_
      refine xm_gtake 14 (m' := 32767) rfl (by kernel_rfl) (by first | exact Sb.refl | exact Sb.nil | (repeat (first | exact Sb.nil | exact Sb.refl | exact Sb.app0 | apply Sb.keep | apply Sb.keepApp | apply Sb.cons | apply Sb.app))) rfl rfl (rd_indexAddr rfl rfl (by omega) (by omega)) rfl (by kernel_rfl) ?_
      refine xm_gtake 15 (m' := 65535) rfl (by kernel_rfl) (by first | exact Sb.refl | exact Sb.nil | (repeat (first | exact Sb.nil | exact Sb.refl | exact Sb.app0 | apply Sb.keep | apply Sb.keepApp | apply Sb.cons | apply Sb.app))) rfl rfl (rd_loadA (vs := x.ms[i].enc) rfl rfl k2') rfl (by kernel_rfl) ?_
      refine xm_gtake 17 (m' := 196607) rfl (by kernel_rfl) (by first | exact Sb.refl | exact Sb.nil | (repeat (first | exact Sb.nil | exact Sb.refl | exact Sb.app0 | apply Sb.keep | apply Sb.keepApp | apply Sb.cons | apply Sb.app))) rfl rfl (rd_fieldAddr rfl) rfl (by kernel_rfl) ?_
      refine xm_gtake 18 (m' := 458751) rfl (by kernel_rfl) (by first | exact Sb.refl | exact Sb.nil | (repeat (first | exact Sb.nil | exact Sb.refl | exact Sb.app0 | apply Sb.keep | apply Sb.keepApp | apply Sb.cons | apply Sb.app))) rfl rfl (rd_load1 rfl (Cl.o0 rfl)) rfl (by kernel_rfl) ?_
      refine xm_gtake 19 (m' := 983039) rfl (by kernel_rfl) (by first | exact Sb.refl | exact Sb.nil | (repeat (first | exact Sb.nil | exact Sb.refl | exact Sb.app0 | apply Sb.keep | apply Sb.keepApp | apply Sb.cons | apply Sb.app))) rfl rfl (rd_move rfl) rfl (by kernel_rfl) ?_
      refine xm_gtake 20 (m' := 2031615) rfl (by kernel_rfl) (by first | exact Sb.refl | exact Sb.nil | (repeat (first | exact Sb.nil | exact Sb.refl | exact Sb.app0 | apply Sb.keep | apply Sb.keepApp | apply Sb.cons | apply Sb.app))) rfl rfl (rd_indexAddr rfl rfl (by omega) (by omega)) rfl (by kernel_rfl) ?_
      refine xm_gtake 21 (m' := 4128767) rfl (by kernel_rfl) (by first | exact Sb.refl | exact Sb.nil | (repeat (first | exact Sb.nil | exact Sb.refl | exact Sb.app0 | apply Sb.keep | apply Sb.keepApp | apply Sb.cons | apply Sb.app))) rfl rfl (rd_loadA (vs := x.ms[i].enc) rfl rfl hc3) rfl (by kernel_rfl) ?_
      refine xm_gone 16 (m' := 4194303) rfl (by kernel_rfl) rfl rfl rfl (by kernel_rfl) (ef_call rfl (XF.mono (xf_conv x.ms[i]) ?_))
      rintro v L' ⟨rfl, rfl⟩
      refine ⟨(by first | exact Sb.refl | exact Sb.nil | (repeat (first | exact Sb.nil | exact Sb.refl | exact Sb.app0 | apply Sb.keep | apply Sb.keepApp | apply Sb.cons | apply Sb.app))), ?_⟩
      refine xm_gtake 22 (m' := 8388607) rfl (by kernel_rfl) (by first | exact Sb.refl | exact Sb.nil | (repeat (first | exact Sb.nil | exact Sb.refl | exact Sb.app0 | apply Sb.keep | apply Sb.keepApp | apply Sb.cons | apply Sb.app))) rfl rfl (rd_neSame49 (a := x.ms[i]) rfl rfl) rfl (by kernel_rfl) ?_
      refine xm_take 23 (m' := 16777215) rfl (by kernel_rfl) (by first | exact Sb.refl | exact Sb.nil | (repeat (first | exact Sb.nil | exact Sb.refl | exact Sb.app0 | apply Sb.keep | apply Sb.keepApp | apply Sb.cons | apply Sb.app))) (rd_pickf rfl rfl) rfl (by kernel_rfl) ?_
      refine xm_done (by kernel_rfl) ?_
      refine xq_seq ?_
      refine xc_condf rfl ?_
      refine xc_skip ?_
      refine xq_seq ?_
      refine xc_seq ?_
      refine xc_region ?_
      refine xo_rd (rd_move rfl) rfl ?_
      refine xo_rd (rd_move rfl) rfl ?_
      refine xo_rd (rd_indexAddr rfl rfl (by omega) (by omega)) rfl ?_
    refine xo_ef rfl (ef_storeElo [_] (lb ++ (x.blks ++ R)) (i := i) hO rfl rfl (by omega) rfl rfl rfl (by decide) rfl fun l' hO3 => ?_)
    focus
      refine xo_nil ?_
      refine xq_seq ?_
      refine xc_region ?_
      refine xo_rd (rd_move rfl) rfl ?_
      refine xo_rd (rd_move rfl) rfl ?_
      refine xo_rd (rd_build rfl rfl rfl) rfl ?_
      refine xo_rd (rd_indexAddr rfl rfl (by omega) (by omega)) rfl ?_
    refine xo_ef rfl (ef_storeElo (_ :: l') (x.blks ++ R) (i := i) hP rfl rfl (by omega) rfl rfl rfl (by decide) rfl fun lb' hP3 => ?_)
    focus
      refine xo_nil ?_
      refine xq_block ?_
      refine xq_seq ?_
      refine xc_region ?_
      refine xo_rd (rd_move rfl) rfl ?_
      refine xo_rd (rd_addn rfl rfl (by omega) (by omega)) rfl ?_
      refine xo_rd (rd_assign rfl) rfl ?_
      refine xo_nil ?_
    refine xq_roundI (i + 1, _, l', _, lb') ⟨by dsimp only; omega, hO3, ?_, hP3, ?_⟩ (by dsimp only; omega) rfl (by repeat (first | exact keep_nil | refine keep_cons rfl ?_))
    · dsimp only
      have e1 : (xs.take (i * 1) ++ (Value.int .i64 77).cells.toList).length = i + 1 := by
        rw [List.length_append, List.length_take]; simp [Value.cells]; omega
      rw [List.drop_left' e1, Nat.mul_one, ← List.drop_drop, hd, List.drop_drop]
    · dsimp only
      have e1 : ∀ v : List Value, v.length = 4 → (ys.take (i * 4) ++ v).length = (i + 1) * 4 := fun v hv => by
        rw [List.length_append, List.length_take, hv]; omega
      rw [List.drop_left' (e1 _ rfl), show (i + 1) * 4 = i * 4 + 4 from by omega, ← List.drop_drop, he, List.drop_drop]
  · refine xq_sub (L' := x.blks ++ R) ((List.sublist_append_right _ _).trans ((List.sublist_append_right _ _).trans (List.sublist_cons_self _ _))) ?_
    exact xq_ret1 (.inl rfl) Try.results18 rfl ⟨rfl, rfl⟩
end Go.Proofs.Ytginfcoaaioaeaa.X
