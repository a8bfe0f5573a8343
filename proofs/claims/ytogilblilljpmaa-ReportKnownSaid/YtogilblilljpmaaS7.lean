/-
  Texts of my own, put together: walks and laws for this seat. No condition.
-/
import Derived.Test.YtogilblilljpmaaS6
/-
  What packets tell: walks of my own.
-/
namespace Go.Proofs.Ytogilblilljpmaa.X
open Go Go.RowKit
set_option linter.unusedVariables false
set_option linter.unusedSimpArgs false
theorem or64_32 (a c : Int) (h0 : 0 ≤ a) (h1 : a ≤ 4294967295) (h2 : 0 ≤ c) (h3 : c < 4294967296) : bits .or .u64 (a * 4294967296) c = a * 4294967296 + c := by
  obtain ⟨n, rfl⟩ := Int.eq_ofNat_of_zero_le h0
  obtain ⟨k, rfl⟩ := Int.eq_ofNat_of_zero_le h2
  have e1 : (BitVec.ofInt 64 ((n : Int) * 4294967296) ||| BitVec.ofInt 64 (k : Int)).toNat = n * 4294967296 + k := by
    rw [BitVec.toNat_or]
    have a1 : (BitVec.ofInt 64 ((n : Int) * 4294967296)).toNat = n * 4294967296 := by
      rw [show ((n : Int) * 4294967296) = ((n * 4294967296 : Nat) : Int) from by omega, BitVec.ofInt_natCast, BitVec.toNat_ofNat]
      exact Nat.mod_eq_of_lt (by show n * 4294967296 < 18446744073709551616; omega)
    have a2 : (BitVec.ofInt 64 (k : Int)).toNat = k := by
      rw [BitVec.ofInt_natCast, BitVec.toNat_ofNat]
      exact Nat.mod_eq_of_lt (by show k < 18446744073709551616; omega)
    rw [a1, a2, Nat.mul_comm n 4294967296]
    exact (Nat.two_pow_add_eq_or_of_lt (i := 32) (b := k) (by omega) n).symm.trans (by omega)
  show IntKind.u64.wrap ((BitVec.ofInt 64 ((n : Int) * 4294967296) ||| BitVec.ofInt 64 (k : Int)).toNat : Int) = _
  rw [e1, wrap_u64]; omega
def rd0 (q : Pc) : Rd := ⟨q.bd, 0, false⟩
theorem rd0_B {W : World} {L : List Blk} {x : Pb} (hr : Rs W L x.p (ints .u8 x.q.bd)) (hg : x.q.Rg) (hc : x.q.bd.length ≤ x.c) (hn : x.q.bd.length ≤ 1000000) : RdB W L (rd0 x.q) (.cells #[.slice x.p x.q.bd.length x.c, .int .i64 0, .bool false] 130 (0, 0)) :=
  ⟨x.p, x.c, rfl, hc, hr, hg.bd, by show 0 + x.q.bd.length ≤ _; omega⟩
theorem xr_blocksE {W : World} {L L0 : List Blk} (b : Nat) {o : Obj} {r : Rd} (n : Nat) (hn : n ≤ 255) (h : RdB W L0 r o) (hs : ∀ z, z ∈ L0 → z ∈ L) :
    XF Try.prog W 56 #[.pointer (some ⟨b, 0, none⟩), .int .u8 n] ((b, o) :: L) (fun v L' => ∃ s k l o', v = .slice s n k ∧ SlO 7 30 (.slice s n k) n ((Rd.blks n r).1.flatMap Bk.enc) l ∧ RdB W L0 (Rd.blks n r).2 o' ∧ L' = (b, o') :: (L ++ l)) := by
  refine ⟨fun w hw => Calls.mono ((xr_blocks b n hn h hs).run w hw) ?_⟩
  rintro e w' ⟨v, he, L', h1, s, k, l, o', h2, h3, h4, rfl⟩
  exact ⟨v, he, _, h1.perm (List.Perm.cons _ List.perm_append_comm), s, k, l, o', h2, h3, h4, rfl⟩
def Rd.sn (r : Rd) (n : Nat) : Sn × Rd :=
  (⟨vl (r.take 4).1, vl ((r.take 4).2.take 4).1 * 4294967296 + vl (((r.take 4).2.take 4).2.take 4).1, vl ((((r.take 4).2.take 4).2.take 4).2.take 4).1, vl (((((r.take 4).2.take 4).2.take 4).2.take 4).2.take 4).1, vl ((((((r.take 4).2.take 4).2.take 4).2.take 4).2.take 4).2.take 4).1,
    (Rd.blks n ((((((r.take 4).2.take 4).2.take 4).2.take 4).2.take 4).2.take 4).2).1⟩, (Rd.blks n ((((((r.take 4).2.take 4).2.take 4).2.take 4).2.take 4).2.take 4).2).2)
def Sn.zero : Sn := ⟨0, 0, 0, 0, 0, []⟩
def ofSn (q : Pc) : Sn × Int := if toldE q ((rd0 q).sn q.ct.toNat).2 200 false = 0 then (((rd0 q).sn q.ct.toNat).1, 0) else (.zero, toldE q ((rd0 q).sn q.ct.toNat).2 200 false)
/-- What a sender that is told is. -/
def SnM (L : List Blk) (z : Sn × Int) (v : Value) (L' : List Blk) : Prop :=
  ∃ s k l, v = .tuple #[.agg (z.1.enc (.slice s z.1.bl.length k)).toArray, .int .i64 z.2] ∧ SlO 7 30 (.slice s z.1.bl.length k) z.1.bl.length (z.1.bl.flatMap Bk.enc) l ∧ L' = l ++ L
theorem SnM.err {L : List Blk} (e : Int) : SnM L (.zero, e) (.tuple #[.agg (Sn.zero.enc (.slice none 0 0)).toArray, .int .i64 e]) L := ⟨none, 0, [], rfl, SlO.nil, rfl⟩
structure OfS where
  r : Nat
  o : Obj
  s : Option Addr
  k : Nat
  l : List Blk
set_option maxHeartbeats 8000000 in
theorem xf_ofSender {W : World} {L : List Blk} (x : Pb) (hr : Rs W L x.p (ints .u8 x.q.bd)) (hg : x.q.Rg) (hc : x.q.bd.length ≤ x.c) (hn : x.q.bd.length ≤ 1000000) :
    XF Try.prog W 34 #[.agg x.enc.toArray] L (SnM L (ofSn x.q)) := by
  refine xf_enter (args := [_]) Try.func34 rfl Try.ntmps34 rfl ?_
  have hB := rd0_B hr hg hc hn
  have hct := hg.ct
  unfold By at hct
  obtain ⟨⟨ct', kd, bd, pd⟩, xp, xc, xl⟩ := x
  dsimp only at hct hB hr hc hn hg
  obtain ⟨ct, rfl⟩ : ∃ ct : Nat, ct' = ct := ⟨ct'.toNat, by omega⟩
  unfold ofSn
  dsimp only
  rw [show (ct : Int).toNat = ct from rfl]
  generalize hq : (⟨ct, kd, bd, pd⟩ : Pc) = q at *
  have hu1 := Rd.vl_u4 (Rd.take_by hB.ok 4).2
  have hu2 := Rd.vl_u4 (Rd.take_by (Rd.take_by hB.ok 4).2 4).2
  unfold U4 at hu1 hu2
  generalize hr0 : rd0 q = r0 at *
  subst hq
  unfold Pb.enc Pc.enc
  dsimp only
  focus
    refine xc_seq ?_
    refine xc_region ?_
    refine xo_ef rfl (ef_box rfl fun r1 => ?_)
    refine xo_ef rfl (ef_alloc fun r2 => ?_)
    refine xo_rd (rd_assign rfl) rfl ?_
    refine xo_nil ?_
    refine xq_seq ?_
    refine xc_seq ?_
    refine xc_region ?_
    refine xo_rd (rd_fieldAddr rfl) rfl ?_
    refine xo_rd (rd_load1 rfl (Cl.o1 rfl)) rfl ?_
    refine xo_rd (rd_build rfl rfl rfl) rfl ?_
    refine xo_ef rfl (ef_box rfl fun r10 => ?_)
    refine xo_rd (rd_assign rfl) rfl ?_
    refine xo_nil ?_
    refine xq_seq ?_
  have hbl : (r0.sn ct).1.bl.length = ct := Rd.blks_len _ _
  refine xc_join (ι := OfS) (fun z => RdB W L (r0.sn ct).2 z.o ∧ SlO 7 30 (.slice z.s ct z.k) ct ((r0.sn ct).1.bl.flatMap Bk.enc) z.l)
    (fun z => (z.r, .cells ((r0.sn ct).1.enc (.slice z.s ct z.k)).toArray 43 (0, 0)) :: (r10, z.o) :: (r2, .cells #[.int .u32 0, .int .u64 0, .int .u32 0, .int .u32 0, .int .u32 0, .slice none 0 0] 43 (0, 0)) :: (r1, .cells #[.int .u8 ct, .int .u8 kd, .slice xp bd.length xc, .int .u8 pd] 81 (0, 0)) :: (L ++ z.l))
    (fun z => [(1, .pointer (some ⟨r1, 0, none⟩)), (2, .pointer (some ⟨r2, 0, none⟩)), (4, .pointer (some ⟨r10, 0, none⟩)), (5, .pointer (some ⟨z.r, 0, none⟩))]) ?_ ?_
  · focus
      refine xc_drawM [0, 1, 0, 6, 8, 16, 0, 72, 128, 288, 0, 1152, 0, 6144, 0, 24576, 0, 0, 131072, 360448, 567810, 0, 4194303] [0, 1, 0, 6, 8, 16, 0, 72, 128, 288, 0, 1152, 0, 6144, 0, 24576, 0, 0, 131072, 360448, 567810, 0, 4194303] ([(r1, .cells #[.int .u8 ct, .int .u8 kd, .slice xp bd.length xc, .int .u8 pd] 81 (0, 0))]) (by kernel_rfl) (by kernel_rfl) (by kernel_rfl) ?_
      refine xm_take 0 (m' := 1) rfl (by kernel_rfl) (by first | exact Sb.refl | exact Sb.nil | (repeat (first | exact Sb.nil | exact Sb.refl | exact Sb.app0 | apply Sb.keep | apply Sb.keepApp | apply Sb.cons | apply Sb.app))) (rd_move rfl) rfl (by kernel_rfl) ?_
      refine xm_take 2 (m' := 5) rfl (by kernel_rfl) (by first | exact Sb.refl | exact Sb.nil | (repeat (first | exact Sb.nil | exact Sb.refl | exact Sb.app0 | apply Sb.keep | apply Sb.keepApp | apply Sb.cons | apply Sb.app))) (rd_move rfl) rfl (by kernel_rfl) ?_
      refine xm_take 6 (m' := 69) rfl (by kernel_rfl) (by first | exact Sb.refl | exact Sb.nil | (repeat (first | exact Sb.nil | exact Sb.refl | exact Sb.app0 | apply Sb.keep | apply Sb.keepApp | apply Sb.cons | apply Sb.app))) (rd_move rfl) rfl (by kernel_rfl) ?_
      refine xm_take 10 (m' := 1093) rfl (by kernel_rfl) (by first | exact Sb.refl | exact Sb.nil | (repeat (first | exact Sb.nil | exact Sb.refl | exact Sb.app0 | apply Sb.keep | apply Sb.keepApp | apply Sb.cons | apply Sb.app))) (rd_move rfl) rfl (by kernel_rfl) ?_
      refine xm_take 12 (m' := 5189) rfl (by kernel_rfl) (by first | exact Sb.refl | exact Sb.nil | (repeat (first | exact Sb.nil | exact Sb.refl | exact Sb.app0 | apply Sb.keep | apply Sb.keepApp | apply Sb.cons | apply Sb.app))) (rd_move rfl) rfl (by kernel_rfl) ?_
      refine xm_take 14 (m' := 21573) rfl (by kernel_rfl) (by first | exact Sb.refl | exact Sb.nil | (repeat (first | exact Sb.nil | exact Sb.refl | exact Sb.app0 | apply Sb.keep | apply Sb.keepApp | apply Sb.cons | apply Sb.app))) (rd_move rfl) rfl (by kernel_rfl) ?_
      refine xm_take 16 (m' := 87109) rfl (by kernel_rfl) (by first | exact Sb.refl | exact Sb.nil | (repeat (first | exact Sb.nil | exact Sb.refl | exact Sb.app0 | apply Sb.keep | apply Sb.keepApp | apply Sb.cons | apply Sb.app))) (rd_move rfl) rfl (by kernel_rfl) ?_
      refine xm_take 17 (m' := 218181) rfl (by kernel_rfl) (by first | exact Sb.refl | exact Sb.nil | (repeat (first | exact Sb.nil | exact Sb.refl | exact Sb.app0 | apply Sb.keep | apply Sb.keepApp | apply Sb.cons | apply Sb.app))) (rd_fieldAddr rfl) rfl (by kernel_rfl) ?_
      refine xm_take 18 (m' := 480325) rfl (by kernel_rfl) (by first | exact Sb.refl | exact Sb.nil | (repeat (first | exact Sb.nil | exact Sb.refl | exact Sb.app0 | apply Sb.keep | apply Sb.keepApp | apply Sb.cons | apply Sb.app))) (rd_load1 rfl (Cl.o0 rfl)) rfl (by kernel_rfl) ?_
      refine xm_two 1 21 (mi := 480327) (mk := 2577477) rfl rfl (by kernel_rfl) rfl rfl (by kernel_rfl) (by kernel_rfl) (ef_call rfl (XF.mono (xr_long _ (by assumption) (fun z hz => by simp [hz])) ?_)) (ef_alloc fun r5 => ⟨(by first | exact Sb.refl | exact Sb.nil | (repeat (first | exact Sb.nil | exact Sb.refl | exact Sb.app0 | apply Sb.keep | apply Sb.keepApp | apply Sb.cons | apply Sb.app))), ?_⟩)
      rotate_left
      rotate_right
      rintro v L' ⟨rfl, o2, ho2, rfl⟩
      refine ⟨(by first | exact Sb.refl | exact Sb.nil | (repeat (first | exact Sb.nil | exact Sb.refl | exact Sb.app0 | apply Sb.keep | apply Sb.keepApp | apply Sb.cons | apply Sb.app))), ?_⟩
      refine xm_two 3 21 (mi := 480335) (mk := 2577479) rfl rfl (by kernel_rfl) rfl rfl (by kernel_rfl) (by kernel_rfl) (ef_call rfl (XF.mono (xr_long _ (by assumption) (fun z hz => by simp [hz])) ?_)) (ef_alloc fun r5 => ⟨(by first | exact Sb.refl | exact Sb.nil | (repeat (first | exact Sb.nil | exact Sb.refl | exact Sb.app0 | apply Sb.keep | apply Sb.keepApp | apply Sb.cons | apply Sb.app))), ?_⟩)
      rotate_left
      rotate_right
      rintro v L' ⟨rfl, o2, ho2, rfl⟩
      refine ⟨(by first | exact Sb.refl | exact Sb.nil | (repeat (first | exact Sb.nil | exact Sb.refl | exact Sb.app0 | apply Sb.keep | apply Sb.keepApp | apply Sb.cons | apply Sb.app))), ?_⟩
      refine xm_take 4 (m' := 480351) rfl (by kernel_rfl) (by first | exact Sb.refl | exact Sb.nil | (repeat (first | exact Sb.nil | exact Sb.refl | exact Sb.app0 | apply Sb.keep | apply Sb.keepApp | apply Sb.cons | apply Sb.app))) (rd_convn rfl (by omega) (by omega)) rfl (by kernel_rfl) ?_
      refine xm_take 5 (m' := 480383) rfl (by kernel_rfl) (by first | exact Sb.refl | exact Sb.nil | (repeat (first | exact Sb.nil | exact Sb.refl | exact Sb.app0 | apply Sb.keep | apply Sb.keepApp | apply Sb.cons | apply Sb.app))) (rd_cast (v' := .int .u64 (vl ((r0.take 4).2.take 4).1 * 4294967296)) (rd_shl rfl rfl (by decide) (by decide)) (congrArg (Value.int .u64) (KB.h (vl ((r0.take 4).2.take 4).1 * 4294967296) (by omega) (by omega)))) rfl (by kernel_rfl) ?_
      refine xm_two 7 21 (mi := 480511) (mk := 2577535) rfl rfl (by kernel_rfl) rfl rfl (by kernel_rfl) (by kernel_rfl) (ef_call rfl (XF.mono (xr_long _ (by assumption) (fun z hz => by simp [hz])) ?_)) (ef_alloc fun r5 => ⟨(by first | exact Sb.refl | exact Sb.nil | (repeat (first | exact Sb.nil | exact Sb.refl | exact Sb.app0 | apply Sb.keep | apply Sb.keepApp | apply Sb.cons | apply Sb.app))), ?_⟩)
      rotate_left
      rotate_right
      rintro v L' ⟨rfl, o2, ho2, rfl⟩
      refine ⟨(by first | exact Sb.refl | exact Sb.nil | (repeat (first | exact Sb.nil | exact Sb.refl | exact Sb.app0 | apply Sb.keep | apply Sb.keepApp | apply Sb.cons | apply Sb.app))), ?_⟩
      refine xm_take 8 (m' := 480767) rfl (by kernel_rfl) (by first | exact Sb.refl | exact Sb.nil | (repeat (first | exact Sb.nil | exact Sb.refl | exact Sb.app0 | apply Sb.keep | apply Sb.keepApp | apply Sb.cons | apply Sb.app))) (rd_convn rfl (by omega) (by omega)) rfl (by kernel_rfl) ?_
      refine xm_take 9 (m' := 481279) rfl (by kernel_rfl) (by first | exact Sb.refl | exact Sb.nil | (repeat (first | exact Sb.nil | exact Sb.refl | exact Sb.app0 | apply Sb.keep | apply Sb.keepApp | apply Sb.cons | apply Sb.app))) (rd_cast (v' := .int .u64 (vl ((r0.take 4).2.take 4).1 * 4294967296 + vl (((r0.take 4).2.take 4).2.take 4).1)) (rd_or rfl rfl) (congrArg (Value.int .u64) (or64_32 _ _ (by omega) (by omega) (by omega) (by omega)))) rfl (by kernel_rfl) ?_
      refine xm_two 11 21 (mi := 483327) (mk := 2578431) rfl rfl (by kernel_rfl) rfl rfl (by kernel_rfl) (by kernel_rfl) (ef_call rfl (XF.mono (xr_long _ (by assumption) (fun z hz => by simp [hz])) ?_)) (ef_alloc fun r5 => ⟨(by first | exact Sb.refl | exact Sb.nil | (repeat (first | exact Sb.nil | exact Sb.refl | exact Sb.app0 | apply Sb.keep | apply Sb.keepApp | apply Sb.cons | apply Sb.app))), ?_⟩)
      rotate_left
      rotate_right
      rintro v L' ⟨rfl, o2, ho2, rfl⟩
      refine ⟨(by first | exact Sb.refl | exact Sb.nil | (repeat (first | exact Sb.nil | exact Sb.refl | exact Sb.app0 | apply Sb.keep | apply Sb.keepApp | apply Sb.cons | apply Sb.app))), ?_⟩
      refine xm_two 13 21 (mi := 491519) (mk := 2580479) rfl rfl (by kernel_rfl) rfl rfl (by kernel_rfl) (by kernel_rfl) (ef_call rfl (XF.mono (xr_long _ (by assumption) (fun z hz => by simp [hz])) ?_)) (ef_alloc fun r5 => ⟨(by first | exact Sb.refl | exact Sb.nil | (repeat (first | exact Sb.nil | exact Sb.refl | exact Sb.app0 | apply Sb.keep | apply Sb.keepApp | apply Sb.cons | apply Sb.app))), ?_⟩)
      rotate_left
      rotate_right
      rintro v L' ⟨rfl, o2, ho2, rfl⟩
      refine ⟨(by first | exact Sb.refl | exact Sb.nil | (repeat (first | exact Sb.nil | exact Sb.refl | exact Sb.app0 | apply Sb.keep | apply Sb.keepApp | apply Sb.cons | apply Sb.app))), ?_⟩
      refine xm_two 15 21 (mi := 524287) (mk := 2588671) rfl rfl (by kernel_rfl) rfl rfl (by kernel_rfl) (by kernel_rfl) (ef_call rfl (XF.mono (xr_long _ (by assumption) (fun z hz => by simp [hz])) ?_)) (ef_alloc fun r5 => ⟨(by first | exact Sb.refl | exact Sb.nil | (repeat (first | exact Sb.nil | exact Sb.refl | exact Sb.app0 | apply Sb.keep | apply Sb.keepApp | apply Sb.cons | apply Sb.app))), ?_⟩)
      rotate_left
      rotate_right
      rintro v L' ⟨rfl, o2, ho2, rfl⟩
      refine ⟨(by first | exact Sb.refl | exact Sb.nil | (repeat (first | exact Sb.nil | exact Sb.refl | exact Sb.app0 | apply Sb.keep | apply Sb.keepApp | apply Sb.cons | apply Sb.app))), ?_⟩
      refine xm_two 19 21 (mi := 1048575) (mk := 2621439) rfl rfl (by kernel_rfl) rfl rfl (by kernel_rfl) (by kernel_rfl) (ef_call rfl (XF.mono (xr_blocksE _ ct (by omega) (by assumption) (fun z hz => by simp [hz])) ?_)) (ef_alloc fun r5 => ⟨(by first | exact Sb.refl | exact Sb.nil | (repeat (first | exact Sb.nil | exact Sb.refl | exact Sb.app0 | apply Sb.keep | apply Sb.keepApp | apply Sb.cons | apply Sb.app))), ?_⟩)
      rotate_left
      rotate_right
      rintro v L' ⟨s, k, lb, o9, rfl, hO, ho9, rfl⟩
      refine ⟨(by first | exact Sb.refl | exact Sb.nil | (repeat (first | exact Sb.nil | exact Sb.refl | exact Sb.app0 | apply Sb.keep | apply Sb.keepApp | apply Sb.cons | apply Sb.app))), ?_⟩
      refine xm_take 20 (m' := 2097151) rfl (by kernel_rfl) (by first | exact Sb.refl | exact Sb.nil | (repeat (first | exact Sb.nil | exact Sb.refl | exact Sb.app0 | apply Sb.keep | apply Sb.keepApp | apply Sb.cons | apply Sb.app))) (rd_build rfl rfl rfl) rfl (by kernel_rfl) ?_
      refine xm_one 21 (m' := 4194303) rfl (by kernel_rfl) rfl (by kernel_rfl) (ef_alloc fun r5 => ?_)
      refine ⟨(by first | exact Sb.refl | exact Sb.nil | (repeat (first | exact Sb.nil | exact Sb.refl | exact Sb.app0 | apply Sb.keep | apply Sb.keepApp | apply Sb.cons | apply Sb.app))), ?_⟩
      refine xm_one 22 (m' := 8388607) rfl (by kernel_rfl) rfl (by kernel_rfl) (ef_storeB [] _ rfl rfl (by first | rfl | assumption) rfl rfl rfl ?_)
      refine ⟨(by first | exact Sb.refl | exact Sb.nil | (repeat (first | exact Sb.nil | exact Sb.refl | exact Sb.app0 | apply Sb.keep | apply Sb.keepApp | apply Sb.cons | apply Sb.app))), ?_⟩
      refine xm_done (by kernel_rfl) ?_
      rotate_left
      refine xm_one 19 (m' := 3145727) rfl (by kernel_rfl) rfl (by kernel_rfl) (ef_call rfl (XF.mono (XF.mid [_] (xr_blocksE _ ct (by omega) (by assumption) (fun z hz => by simp [hz]))) ?_))
      rintro v L' ⟨s, k, lb, o9, rfl, hO, ho9, rfl⟩
      refine xmx_mid [_] ?_
      refine ⟨(by first | exact Sb.refl | exact Sb.nil | (repeat (first | exact Sb.nil | exact Sb.refl | exact Sb.app0 | apply Sb.keep | apply Sb.keepApp | apply Sb.cons | apply Sb.app))), ?_⟩
      refine xm_take 20 (m' := 4194303) rfl (by kernel_rfl) (by first | exact Sb.refl | exact Sb.nil | (repeat (first | exact Sb.nil | exact Sb.refl | exact Sb.app0 | apply Sb.keep | apply Sb.keepApp | apply Sb.cons | apply Sb.app))) (rd_build rfl rfl rfl) rfl (by kernel_rfl) ?_
      refine xm_one 22 (m' := 8388607) rfl (by kernel_rfl) rfl (by kernel_rfl) (ef_storeB [] _ rfl rfl (by first | rfl | assumption) rfl rfl rfl ?_)
      refine ⟨(by first | exact Sb.refl | exact Sb.nil | (repeat (first | exact Sb.nil | exact Sb.refl | exact Sb.app0 | apply Sb.keep | apply Sb.keepApp | apply Sb.cons | apply Sb.app))), ?_⟩
      refine xm_done (by kernel_rfl) ?_
      rotate_left
      refine xm_one 15 (m' := 2621439) rfl (by kernel_rfl) rfl (by kernel_rfl) (ef_call rfl (XF.mono (XF.mid [_] (xr_long _ (by assumption) (fun z hz => by simp [hz]))) ?_))
      rintro v L' ⟨rfl, o2, ho2, rfl⟩
      refine xmx_mid [_] ?_
      refine ⟨(by first | exact Sb.refl | exact Sb.nil | (repeat (first | exact Sb.nil | exact Sb.refl | exact Sb.app0 | apply Sb.keep | apply Sb.keepApp | apply Sb.cons | apply Sb.app))), ?_⟩
      refine xm_one 19 (m' := 3145727) rfl (by kernel_rfl) rfl (by kernel_rfl) (ef_call rfl (XF.mono (XF.mid [_] (xr_blocksE _ ct (by omega) (by assumption) (fun z hz => by simp [hz]))) ?_))
      rintro v L' ⟨s, k, lb, o9, rfl, hO, ho9, rfl⟩
      refine xmx_mid [_] ?_
      refine ⟨(by first | exact Sb.refl | exact Sb.nil | (repeat (first | exact Sb.nil | exact Sb.refl | exact Sb.app0 | apply Sb.keep | apply Sb.keepApp | apply Sb.cons | apply Sb.app))), ?_⟩
      refine xm_take 20 (m' := 4194303) rfl (by kernel_rfl) (by first | exact Sb.refl | exact Sb.nil | (repeat (first | exact Sb.nil | exact Sb.refl | exact Sb.app0 | apply Sb.keep | apply Sb.keepApp | apply Sb.cons | apply Sb.app))) (rd_build rfl rfl rfl) rfl (by kernel_rfl) ?_
      refine xm_one 22 (m' := 8388607) rfl (by kernel_rfl) rfl (by kernel_rfl) (ef_storeB [] _ rfl rfl (by first | rfl | assumption) rfl rfl rfl ?_)
      refine ⟨(by first | exact Sb.refl | exact Sb.nil | (repeat (first | exact Sb.nil | exact Sb.refl | exact Sb.app0 | apply Sb.keep | apply Sb.keepApp | apply Sb.cons | apply Sb.app))), ?_⟩
      refine xm_done (by kernel_rfl) ?_
      rotate_left
      refine xm_one 13 (m' := 2588671) rfl (by kernel_rfl) rfl (by kernel_rfl) (ef_call rfl (XF.mono (XF.mid [_] (xr_long _ (by assumption) (fun z hz => by simp [hz]))) ?_))
      rintro v L' ⟨rfl, o2, ho2, rfl⟩
      refine xmx_mid [_] ?_
      refine ⟨(by first | exact Sb.refl | exact Sb.nil | (repeat (first | exact Sb.nil | exact Sb.refl | exact Sb.app0 | apply Sb.keep | apply Sb.keepApp | apply Sb.cons | apply Sb.app))), ?_⟩
      refine xm_one 15 (m' := 2621439) rfl (by kernel_rfl) rfl (by kernel_rfl) (ef_call rfl (XF.mono (XF.mid [_] (xr_long _ (by assumption) (fun z hz => by simp [hz]))) ?_))
      rintro v L' ⟨rfl, o2, ho2, rfl⟩
      refine xmx_mid [_] ?_
      refine ⟨(by first | exact Sb.refl | exact Sb.nil | (repeat (first | exact Sb.nil | exact Sb.refl | exact Sb.app0 | apply Sb.keep | apply Sb.keepApp | apply Sb.cons | apply Sb.app))), ?_⟩
      refine xm_one 19 (m' := 3145727) rfl (by kernel_rfl) rfl (by kernel_rfl) (ef_call rfl (XF.mono (XF.mid [_] (xr_blocksE _ ct (by omega) (by assumption) (fun z hz => by simp [hz]))) ?_))
      rintro v L' ⟨s, k, lb, o9, rfl, hO, ho9, rfl⟩
      refine xmx_mid [_] ?_
      refine ⟨(by first | exact Sb.refl | exact Sb.nil | (repeat (first | exact Sb.nil | exact Sb.refl | exact Sb.app0 | apply Sb.keep | apply Sb.keepApp | apply Sb.cons | apply Sb.app))), ?_⟩
      refine xm_take 20 (m' := 4194303) rfl (by kernel_rfl) (by first | exact Sb.refl | exact Sb.nil | (repeat (first | exact Sb.nil | exact Sb.refl | exact Sb.app0 | apply Sb.keep | apply Sb.keepApp | apply Sb.cons | apply Sb.app))) (rd_build rfl rfl rfl) rfl (by kernel_rfl) ?_
      refine xm_one 22 (m' := 8388607) rfl (by kernel_rfl) rfl (by kernel_rfl) (ef_storeB [] _ rfl rfl (by first | rfl | assumption) rfl rfl rfl ?_)
      refine ⟨(by first | exact Sb.refl | exact Sb.nil | (repeat (first | exact Sb.nil | exact Sb.refl | exact Sb.app0 | apply Sb.keep | apply Sb.keepApp | apply Sb.cons | apply Sb.app))), ?_⟩
      refine xm_done (by kernel_rfl) ?_
      rotate_left
      refine xm_one 11 (m' := 2580479) rfl (by kernel_rfl) rfl (by kernel_rfl) (ef_call rfl (XF.mono (XF.mid [_] (xr_long _ (by assumption) (fun z hz => by simp [hz]))) ?_))
      rintro v L' ⟨rfl, o2, ho2, rfl⟩
      refine xmx_mid [_] ?_
      refine ⟨(by first | exact Sb.refl | exact Sb.nil | (repeat (first | exact Sb.nil | exact Sb.refl | exact Sb.app0 | apply Sb.keep | apply Sb.keepApp | apply Sb.cons | apply Sb.app))), ?_⟩
      refine xm_one 13 (m' := 2588671) rfl (by kernel_rfl) rfl (by kernel_rfl) (ef_call rfl (XF.mono (XF.mid [_] (xr_long _ (by assumption) (fun z hz => by simp [hz]))) ?_))
      rintro v L' ⟨rfl, o2, ho2, rfl⟩
      refine xmx_mid [_] ?_
      refine ⟨(by first | exact Sb.refl | exact Sb.nil | (repeat (first | exact Sb.nil | exact Sb.refl | exact Sb.app0 | apply Sb.keep | apply Sb.keepApp | apply Sb.cons | apply Sb.app))), ?_⟩
      refine xm_one 15 (m' := 2621439) rfl (by kernel_rfl) rfl (by kernel_rfl) (ef_call rfl (XF.mono (XF.mid [_] (xr_long _ (by assumption) (fun z hz => by simp [hz]))) ?_))
      rintro v L' ⟨rfl, o2, ho2, rfl⟩
      refine xmx_mid [_] ?_
      refine ⟨(by first | exact Sb.refl | exact Sb.nil | (repeat (first | exact Sb.nil | exact Sb.refl | exact Sb.app0 | apply Sb.keep | apply Sb.keepApp | apply Sb.cons | apply Sb.app))), ?_⟩
      refine xm_one 19 (m' := 3145727) rfl (by kernel_rfl) rfl (by kernel_rfl) (ef_call rfl (XF.mono (XF.mid [_] (xr_blocksE _ ct (by omega) (by assumption) (fun z hz => by simp [hz]))) ?_))
      rintro v L' ⟨s, k, lb, o9, rfl, hO, ho9, rfl⟩
      refine xmx_mid [_] ?_
      refine ⟨(by first | exact Sb.refl | exact Sb.nil | (repeat (first | exact Sb.nil | exact Sb.refl | exact Sb.app0 | apply Sb.keep | apply Sb.keepApp | apply Sb.cons | apply Sb.app))), ?_⟩
      refine xm_take 20 (m' := 4194303) rfl (by kernel_rfl) (by first | exact Sb.refl | exact Sb.nil | (repeat (first | exact Sb.nil | exact Sb.refl | exact Sb.app0 | apply Sb.keep | apply Sb.keepApp | apply Sb.cons | apply Sb.app))) (rd_build rfl rfl rfl) rfl (by kernel_rfl) ?_
      refine xm_one 22 (m' := 8388607) rfl (by kernel_rfl) rfl (by kernel_rfl) (ef_storeB [] _ rfl rfl (by first | rfl | assumption) rfl rfl rfl ?_)
      refine ⟨(by first | exact Sb.refl | exact Sb.nil | (repeat (first | exact Sb.nil | exact Sb.refl | exact Sb.app0 | apply Sb.keep | apply Sb.keepApp | apply Sb.cons | apply Sb.app))), ?_⟩
      refine xm_done (by kernel_rfl) ?_
      rotate_left
      refine xm_one 7 (m' := 2577663) rfl (by kernel_rfl) rfl (by kernel_rfl) (ef_call rfl (XF.mono (XF.mid [_] (xr_long _ (by assumption) (fun z hz => by simp [hz]))) ?_))
      rintro v L' ⟨rfl, o2, ho2, rfl⟩
      refine xmx_mid [_] ?_
      refine ⟨(by first | exact Sb.refl | exact Sb.nil | (repeat (first | exact Sb.nil | exact Sb.refl | exact Sb.app0 | apply Sb.keep | apply Sb.keepApp | apply Sb.cons | apply Sb.app))), ?_⟩
      refine xm_take 8 (m' := 2577919) rfl (by kernel_rfl) (by first | exact Sb.refl | exact Sb.nil | (repeat (first | exact Sb.nil | exact Sb.refl | exact Sb.app0 | apply Sb.keep | apply Sb.keepApp | apply Sb.cons | apply Sb.app))) (rd_convn rfl (by omega) (by omega)) rfl (by kernel_rfl) ?_
      refine xm_take 9 (m' := 2578431) rfl (by kernel_rfl) (by first | exact Sb.refl | exact Sb.nil | (repeat (first | exact Sb.nil | exact Sb.refl | exact Sb.app0 | apply Sb.keep | apply Sb.keepApp | apply Sb.cons | apply Sb.app))) (rd_cast (v' := .int .u64 (vl ((r0.take 4).2.take 4).1 * 4294967296 + vl (((r0.take 4).2.take 4).2.take 4).1)) (rd_or rfl rfl) (congrArg (Value.int .u64) (or64_32 _ _ (by omega) (by omega) (by omega) (by omega)))) rfl (by kernel_rfl) ?_
      refine xm_one 11 (m' := 2580479) rfl (by kernel_rfl) rfl (by kernel_rfl) (ef_call rfl (XF.mono (XF.mid [_] (xr_long _ (by assumption) (fun z hz => by simp [hz]))) ?_))
      rintro v L' ⟨rfl, o2, ho2, rfl⟩
      refine xmx_mid [_] ?_
      refine ⟨(by first | exact Sb.refl | exact Sb.nil | (repeat (first | exact Sb.nil | exact Sb.refl | exact Sb.app0 | apply Sb.keep | apply Sb.keepApp | apply Sb.cons | apply Sb.app))), ?_⟩
      refine xm_one 13 (m' := 2588671) rfl (by kernel_rfl) rfl (by kernel_rfl) (ef_call rfl (XF.mono (XF.mid [_] (xr_long _ (by assumption) (fun z hz => by simp [hz]))) ?_))
      rintro v L' ⟨rfl, o2, ho2, rfl⟩
      refine xmx_mid [_] ?_
      refine ⟨(by first | exact Sb.refl | exact Sb.nil | (repeat (first | exact Sb.nil | exact Sb.refl | exact Sb.app0 | apply Sb.keep | apply Sb.keepApp | apply Sb.cons | apply Sb.app))), ?_⟩
      refine xm_one 15 (m' := 2621439) rfl (by kernel_rfl) rfl (by kernel_rfl) (ef_call rfl (XF.mono (XF.mid [_] (xr_long _ (by assumption) (fun z hz => by simp [hz]))) ?_))
      rintro v L' ⟨rfl, o2, ho2, rfl⟩
      refine xmx_mid [_] ?_
      refine ⟨(by first | exact Sb.refl | exact Sb.nil | (repeat (first | exact Sb.nil | exact Sb.refl | exact Sb.app0 | apply Sb.keep | apply Sb.keepApp | apply Sb.cons | apply Sb.app))), ?_⟩
      refine xm_one 19 (m' := 3145727) rfl (by kernel_rfl) rfl (by kernel_rfl) (ef_call rfl (XF.mono (XF.mid [_] (xr_blocksE _ ct (by omega) (by assumption) (fun z hz => by simp [hz]))) ?_))
      rintro v L' ⟨s, k, lb, o9, rfl, hO, ho9, rfl⟩
      refine xmx_mid [_] ?_
      refine ⟨(by first | exact Sb.refl | exact Sb.nil | (repeat (first | exact Sb.nil | exact Sb.refl | exact Sb.app0 | apply Sb.keep | apply Sb.keepApp | apply Sb.cons | apply Sb.app))), ?_⟩
      refine xm_take 20 (m' := 4194303) rfl (by kernel_rfl) (by first | exact Sb.refl | exact Sb.nil | (repeat (first | exact Sb.nil | exact Sb.refl | exact Sb.app0 | apply Sb.keep | apply Sb.keepApp | apply Sb.cons | apply Sb.app))) (rd_build rfl rfl rfl) rfl (by kernel_rfl) ?_
      refine xm_one 22 (m' := 8388607) rfl (by kernel_rfl) rfl (by kernel_rfl) (ef_storeB [] _ rfl rfl (by first | rfl | assumption) rfl rfl rfl ?_)
      refine ⟨(by first | exact Sb.refl | exact Sb.nil | (repeat (first | exact Sb.nil | exact Sb.refl | exact Sb.app0 | apply Sb.keep | apply Sb.keepApp | apply Sb.cons | apply Sb.app))), ?_⟩
      refine xm_done (by kernel_rfl) ?_
      rotate_left
      refine xm_one 3 (m' := 2577487) rfl (by kernel_rfl) rfl (by kernel_rfl) (ef_call rfl (XF.mono (XF.mid [_] (xr_long _ (by assumption) (fun z hz => by simp [hz]))) ?_))
      rintro v L' ⟨rfl, o2, ho2, rfl⟩
      refine xmx_mid [_] ?_
      refine ⟨(by first | exact Sb.refl | exact Sb.nil | (repeat (first | exact Sb.nil | exact Sb.refl | exact Sb.app0 | apply Sb.keep | apply Sb.keepApp | apply Sb.cons | apply Sb.app))), ?_⟩
      refine xm_take 4 (m' := 2577503) rfl (by kernel_rfl) (by first | exact Sb.refl | exact Sb.nil | (repeat (first | exact Sb.nil | exact Sb.refl | exact Sb.app0 | apply Sb.keep | apply Sb.keepApp | apply Sb.cons | apply Sb.app))) (rd_convn rfl (by omega) (by omega)) rfl (by kernel_rfl) ?_
      refine xm_take 5 (m' := 2577535) rfl (by kernel_rfl) (by first | exact Sb.refl | exact Sb.nil | (repeat (first | exact Sb.nil | exact Sb.refl | exact Sb.app0 | apply Sb.keep | apply Sb.keepApp | apply Sb.cons | apply Sb.app))) (rd_cast (v' := .int .u64 (vl ((r0.take 4).2.take 4).1 * 4294967296)) (rd_shl rfl rfl (by decide) (by decide)) (congrArg (Value.int .u64) (KB.h (vl ((r0.take 4).2.take 4).1 * 4294967296) (by omega) (by omega)))) rfl (by kernel_rfl) ?_
      refine xm_one 7 (m' := 2577663) rfl (by kernel_rfl) rfl (by kernel_rfl) (ef_call rfl (XF.mono (XF.mid [_] (xr_long _ (by assumption) (fun z hz => by simp [hz]))) ?_))
      rintro v L' ⟨rfl, o2, ho2, rfl⟩
      refine xmx_mid [_] ?_
      refine ⟨(by first | exact Sb.refl | exact Sb.nil | (repeat (first | exact Sb.nil | exact Sb.refl | exact Sb.app0 | apply Sb.keep | apply Sb.keepApp | apply Sb.cons | apply Sb.app))), ?_⟩
      refine xm_take 8 (m' := 2577919) rfl (by kernel_rfl) (by first | exact Sb.refl | exact Sb.nil | (repeat (first | exact Sb.nil | exact Sb.refl | exact Sb.app0 | apply Sb.keep | apply Sb.keepApp | apply Sb.cons | apply Sb.app))) (rd_convn rfl (by omega) (by omega)) rfl (by kernel_rfl) ?_
      refine xm_take 9 (m' := 2578431) rfl (by kernel_rfl) (by first | exact Sb.refl | exact Sb.nil | (repeat (first | exact Sb.nil | exact Sb.refl | exact Sb.app0 | apply Sb.keep | apply Sb.keepApp | apply Sb.cons | apply Sb.app))) (rd_cast (v' := .int .u64 (vl ((r0.take 4).2.take 4).1 * 4294967296 + vl (((r0.take 4).2.take 4).2.take 4).1)) (rd_or rfl rfl) (congrArg (Value.int .u64) (or64_32 _ _ (by omega) (by omega) (by omega) (by omega)))) rfl (by kernel_rfl) ?_
      refine xm_one 11 (m' := 2580479) rfl (by kernel_rfl) rfl (by kernel_rfl) (ef_call rfl (XF.mono (XF.mid [_] (xr_long _ (by assumption) (fun z hz => by simp [hz]))) ?_))
      rintro v L' ⟨rfl, o2, ho2, rfl⟩
      refine xmx_mid [_] ?_
      refine ⟨(by first | exact Sb.refl | exact Sb.nil | (repeat (first | exact Sb.nil | exact Sb.refl | exact Sb.app0 | apply Sb.keep | apply Sb.keepApp | apply Sb.cons | apply Sb.app))), ?_⟩
      refine xm_one 13 (m' := 2588671) rfl (by kernel_rfl) rfl (by kernel_rfl) (ef_call rfl (XF.mono (XF.mid [_] (xr_long _ (by assumption) (fun z hz => by simp [hz]))) ?_))
      rintro v L' ⟨rfl, o2, ho2, rfl⟩
      refine xmx_mid [_] ?_
      refine ⟨(by first | exact Sb.refl | exact Sb.nil | (repeat (first | exact Sb.nil | exact Sb.refl | exact Sb.app0 | apply Sb.keep | apply Sb.keepApp | apply Sb.cons | apply Sb.app))), ?_⟩
      refine xm_one 15 (m' := 2621439) rfl (by kernel_rfl) rfl (by kernel_rfl) (ef_call rfl (XF.mono (XF.mid [_] (xr_long _ (by assumption) (fun z hz => by simp [hz]))) ?_))
      rintro v L' ⟨rfl, o2, ho2, rfl⟩
      refine xmx_mid [_] ?_
      refine ⟨(by first | exact Sb.refl | exact Sb.nil | (repeat (first | exact Sb.nil | exact Sb.refl | exact Sb.app0 | apply Sb.keep | apply Sb.keepApp | apply Sb.cons | apply Sb.app))), ?_⟩
      refine xm_one 19 (m' := 3145727) rfl (by kernel_rfl) rfl (by kernel_rfl) (ef_call rfl (XF.mono (XF.mid [_] (xr_blocksE _ ct (by omega) (by assumption) (fun z hz => by simp [hz]))) ?_))
      rintro v L' ⟨s, k, lb, o9, rfl, hO, ho9, rfl⟩
      refine xmx_mid [_] ?_
      refine ⟨(by first | exact Sb.refl | exact Sb.nil | (repeat (first | exact Sb.nil | exact Sb.refl | exact Sb.app0 | apply Sb.keep | apply Sb.keepApp | apply Sb.cons | apply Sb.app))), ?_⟩
      refine xm_take 20 (m' := 4194303) rfl (by kernel_rfl) (by first | exact Sb.refl | exact Sb.nil | (repeat (first | exact Sb.nil | exact Sb.refl | exact Sb.app0 | apply Sb.keep | apply Sb.keepApp | apply Sb.cons | apply Sb.app))) (rd_build rfl rfl rfl) rfl (by kernel_rfl) ?_
      refine xm_one 22 (m' := 8388607) rfl (by kernel_rfl) rfl (by kernel_rfl) (ef_storeB [] _ rfl rfl (by first | rfl | assumption) rfl rfl rfl ?_)
      refine ⟨(by first | exact Sb.refl | exact Sb.nil | (repeat (first | exact Sb.nil | exact Sb.refl | exact Sb.app0 | apply Sb.keep | apply Sb.keepApp | apply Sb.cons | apply Sb.app))), ?_⟩
      refine xm_done (by kernel_rfl) ?_
      rotate_left
      refine xm_one 1 (m' := 2577479) rfl (by kernel_rfl) rfl (by kernel_rfl) (ef_call rfl (XF.mono (XF.mid [_] (xr_long _ (by assumption) (fun z hz => by simp [hz]))) ?_))
      rintro v L' ⟨rfl, o2, ho2, rfl⟩
      refine xmx_mid [_] ?_
      refine ⟨(by first | exact Sb.refl | exact Sb.nil | (repeat (first | exact Sb.nil | exact Sb.refl | exact Sb.app0 | apply Sb.keep | apply Sb.keepApp | apply Sb.cons | apply Sb.app))), ?_⟩
      refine xm_one 3 (m' := 2577487) rfl (by kernel_rfl) rfl (by kernel_rfl) (ef_call rfl (XF.mono (XF.mid [_] (xr_long _ (by assumption) (fun z hz => by simp [hz]))) ?_))
      rintro v L' ⟨rfl, o2, ho2, rfl⟩
      refine xmx_mid [_] ?_
      refine ⟨(by first | exact Sb.refl | exact Sb.nil | (repeat (first | exact Sb.nil | exact Sb.refl | exact Sb.app0 | apply Sb.keep | apply Sb.keepApp | apply Sb.cons | apply Sb.app))), ?_⟩
      refine xm_take 4 (m' := 2577503) rfl (by kernel_rfl) (by first | exact Sb.refl | exact Sb.nil | (repeat (first | exact Sb.nil | exact Sb.refl | exact Sb.app0 | apply Sb.keep | apply Sb.keepApp | apply Sb.cons | apply Sb.app))) (rd_convn rfl (by omega) (by omega)) rfl (by kernel_rfl) ?_
      refine xm_take 5 (m' := 2577535) rfl (by kernel_rfl) (by first | exact Sb.refl | exact Sb.nil | (repeat (first | exact Sb.nil | exact Sb.refl | exact Sb.app0 | apply Sb.keep | apply Sb.keepApp | apply Sb.cons | apply Sb.app))) (rd_cast (v' := .int .u64 (vl ((r0.take 4).2.take 4).1 * 4294967296)) (rd_shl rfl rfl (by decide) (by decide)) (congrArg (Value.int .u64) (KB.h (vl ((r0.take 4).2.take 4).1 * 4294967296) (by omega) (by omega)))) rfl (by kernel_rfl) ?_
      refine xm_one 7 (m' := 2577663) rfl (by kernel_rfl) rfl (by kernel_rfl) (ef_call rfl (XF.mono (XF.mid [_] (xr_long _ (by assumption) (fun z hz => by simp [hz]))) ?_))
      rintro v L' ⟨rfl, o2, ho2, rfl⟩
      refine xmx_mid [_] ?_
      refine ⟨(by first | exact Sb.refl | exact Sb.nil | (repeat (first | exact Sb.nil | exact Sb.refl | exact Sb.app0 | apply Sb.keep | apply Sb.keepApp | apply Sb.cons | apply Sb.app))), ?_⟩
      refine xm_take 8 (m' := 2577919) rfl (by kernel_rfl) (by first | exact Sb.refl | exact Sb.nil | (repeat (first | exact Sb.nil | exact Sb.refl | exact Sb.app0 | apply Sb.keep | apply Sb.keepApp | apply Sb.cons | apply Sb.app))) (rd_convn rfl (by omega) (by omega)) rfl (by kernel_rfl) ?_
      refine xm_take 9 (m' := 2578431) rfl (by kernel_rfl) (by first | exact Sb.refl | exact Sb.nil | (repeat (first | exact Sb.nil | exact Sb.refl | exact Sb.app0 | apply Sb.keep | apply Sb.keepApp | apply Sb.cons | apply Sb.app))) (rd_cast (v' := .int .u64 (vl ((r0.take 4).2.take 4).1 * 4294967296 + vl (((r0.take 4).2.take 4).2.take 4).1)) (rd_or rfl rfl) (congrArg (Value.int .u64) (or64_32 _ _ (by omega) (by omega) (by omega) (by omega)))) rfl (by kernel_rfl) ?_
      refine xm_one 11 (m' := 2580479) rfl (by kernel_rfl) rfl (by kernel_rfl) (ef_call rfl (XF.mono (XF.mid [_] (xr_long _ (by assumption) (fun z hz => by simp [hz]))) ?_))
      rintro v L' ⟨rfl, o2, ho2, rfl⟩
      refine xmx_mid [_] ?_
      refine ⟨(by first | exact Sb.refl | exact Sb.nil | (repeat (first | exact Sb.nil | exact Sb.refl | exact Sb.app0 | apply Sb.keep | apply Sb.keepApp | apply Sb.cons | apply Sb.app))), ?_⟩
      refine xm_one 13 (m' := 2588671) rfl (by kernel_rfl) rfl (by kernel_rfl) (ef_call rfl (XF.mono (XF.mid [_] (xr_long _ (by assumption) (fun z hz => by simp [hz]))) ?_))
      rintro v L' ⟨rfl, o2, ho2, rfl⟩
      refine xmx_mid [_] ?_
      refine ⟨(by first | exact Sb.refl | exact Sb.nil | (repeat (first | exact Sb.nil | exact Sb.refl | exact Sb.app0 | apply Sb.keep | apply Sb.keepApp | apply Sb.cons | apply Sb.app))), ?_⟩
      refine xm_one 15 (m' := 2621439) rfl (by kernel_rfl) rfl (by kernel_rfl) (ef_call rfl (XF.mono (XF.mid [_] (xr_long _ (by assumption) (fun z hz => by simp [hz]))) ?_))
      rintro v L' ⟨rfl, o2, ho2, rfl⟩
      refine xmx_mid [_] ?_
      refine ⟨(by first | exact Sb.refl | exact Sb.nil | (repeat (first | exact Sb.nil | exact Sb.refl | exact Sb.app0 | apply Sb.keep | apply Sb.keepApp | apply Sb.cons | apply Sb.app))), ?_⟩
      refine xm_one 19 (m' := 3145727) rfl (by kernel_rfl) rfl (by kernel_rfl) (ef_call rfl (XF.mono (XF.mid [_] (xr_blocksE _ ct (by omega) (by assumption) (fun z hz => by simp [hz]))) ?_))
      rintro v L' ⟨s, k, lb, o9, rfl, hO, ho9, rfl⟩
      refine xmx_mid [_] ?_
      refine ⟨(by first | exact Sb.refl | exact Sb.nil | (repeat (first | exact Sb.nil | exact Sb.refl | exact Sb.app0 | apply Sb.keep | apply Sb.keepApp | apply Sb.cons | apply Sb.app))), ?_⟩
      refine xm_take 20 (m' := 4194303) rfl (by kernel_rfl) (by first | exact Sb.refl | exact Sb.nil | (repeat (first | exact Sb.nil | exact Sb.refl | exact Sb.app0 | apply Sb.keep | apply Sb.keepApp | apply Sb.cons | apply Sb.app))) (rd_build rfl rfl rfl) rfl (by kernel_rfl) ?_
      refine xm_one 22 (m' := 8388607) rfl (by kernel_rfl) rfl (by kernel_rfl) (ef_storeB [] _ rfl rfl (by first | rfl | assumption) rfl rfl rfl ?_)
      refine ⟨(by first | exact Sb.refl | exact Sb.nil | (repeat (first | exact Sb.nil | exact Sb.refl | exact Sb.app0 | apply Sb.keep | apply Sb.keepApp | apply Sb.cons | apply Sb.app))), ?_⟩
      refine xm_done (by kernel_rfl) ?_
      rotate_left
    all_goals exact xq_joined (⟨r5, o9, s, k, lb⟩ : OfS) ⟨ho9, hO⟩ rfl (by repeat (first | exact keep_nil | refine keep_cons rfl ?_))
  · rintro ⟨r5, o9, s, k, lb⟩ ⟨ho9, hO⟩
    dsimp only at ho9 hO ⊢
    generalize hz : r0.sn ct = z at *
    generalize he : toldE ⟨ct, kd, bd, pd⟩ z.2 200 false = e at *
    have htold : ∀ R, XF Try.prog W 57 #[.pointer (some ⟨r10, 0, none⟩), .agg (Pb.enc ⟨⟨ct, kd, bd, pd⟩, xp, xc, xl⟩).toArray, .int .u8 200, .bool false] ((r10, o9) :: R) (fun v L' => v = .int .i64 e ∧ L' = (r10, o9) :: R) := fun R => by
      have := xr_told (L := R) r10 ho9 ⟨⟨ct, kd, bd, pd⟩, xp, xc, xl⟩ 200 false
      rwa [he] at this
    by_cases h0 : e = 0
    · subst h0
      rw [if_pos rfl]
      focus
        refine xc_seq ?_
        refine xc_seq ?_
        refine xc_region ?_
        refine xo_rd (rd_move rfl) rfl ?_
        refine xo_rd (rd_loadB rfl Kn.o3 (by rfl)) rfl ?_
        refine xo_ef rfl (ef_call rfl (XF.mono (XF.mid [_] (htold _)) ?_))
        rintro v L' ⟨rfl, rfl⟩
        refine xo_mid [_] ?_
        refine xo_rd (rd_assign rfl) rfl ?_
        refine xo_nil ?_
        refine xq_seq ?_
        refine xc_seq ?_
        refine xc_region ?_
        refine xo_rd (rd_move rfl) rfl ?_
        refine xo_rd (rd_neq rfl rfl) rfl ?_
        refine xo_nil ?_
        refine xq_seq ?_
        refine xc_condf rfl ?_
        refine xc_skip ?_
        refine xq_seq ?_
        refine xc_seq ?_
        refine xc_region ?_
        refine xo_rd (rd_loadB rfl Kn.o0 (by rfl)) rfl ?_
        refine xo_ef rfl (ef_storeB [_, _] _ rfl rfl (by first | rfl | assumption) rfl rfl rfl ?_)
        refine xo_rd (rd_assign rfl) rfl ?_
        refine xo_nil ?_
        refine xq_seq ?_
        refine xc_ret ?_
      refine xq_sub (L' := (r2, .cells (z.1.enc (.slice s ct k)).toArray 43 (0, 0)) :: (L ++ lb)) (.cons _ (.cons _ (.cons_cons _ (.cons _ (List.Sublist.refl _))))) (xq_perm (List.Perm.cons _ List.perm_append_comm) (xq_retB2 (.inl rfl) Try.results34 rfl rfl Kn.o0 rfl (List.sublist_cons_self _ _) ⟨s, k, lb, ?_, ?_, rfl⟩))
      · rw [hbl]
      · rw [hbl]; exact hO
    · rw [if_neg h0]
      focus
        refine xc_seq ?_
        refine xc_seq ?_
        refine xc_region ?_
        refine xo_rd (rd_move rfl) rfl ?_
        refine xo_rd (rd_loadB rfl Kn.o3 (by rfl)) rfl ?_
        refine xo_ef rfl (ef_call rfl (XF.mono (XF.mid [_] (htold _)) ?_))
        rintro v L' ⟨rfl, rfl⟩
        refine xo_mid [_] ?_
        refine xo_rd (rd_assign rfl) rfl ?_
        refine xo_nil ?_
        refine xq_seq ?_
        refine xc_seq ?_
        refine xc_region ?_
        refine xo_rd (rd_move rfl) rfl ?_
        refine xo_rd (rd_neq rfl rfl) rfl ?_
        refine xo_nil ?_
        refine xq_seq ?_
        refine xc_ndec rfl (fun h1 => ?_) (fun h1 => (by exfalso; omega))
        refine xc_seq ?_
        refine xc_region ?_
        refine xo_rd (rd_build rfl rfl rfl) rfl ?_
        refine xo_rd (rd_move rfl) rfl ?_
        refine xo_ef rfl (ef_storeB [_, _] _ rfl rfl (by first | rfl | assumption) rfl rfl rfl ?_)
        refine xo_rd (rd_assign rfl) rfl ?_
        refine xo_nil ?_
        refine xq_seq ?_
        refine xc_ret ?_
        refine xq_then_ret ?_
      exact xq_retB2 (.inl rfl) Try.results34 rfl rfl Kn.o2 rfl ((List.sublist_append_left L lb).trans (.cons _ (.cons _ (.cons _ (.cons _ (List.Sublist.refl _)))))) (SnM.err e)
def Rd.rc (r : Rd) (n : Nat) : (Int × List Bk) × Rd := ((vl (r.take 4).1, (Rd.blks n (r.take 4).2).1), (Rd.blks n (r.take 4).2).2)
def ofRc (q : Pc) : (Int × List Bk) × Int := if toldE q ((rd0 q).rc q.ct.toNat).2 201 false = 0 then (((rd0 q).rc q.ct.toNat).1, 0) else ((0, []), toldE q ((rd0 q).rc q.ct.toNat).2 201 false)
/-- What a receiver that is told is. -/
def RcM (L : List Blk) (z : (Int × List Bk) × Int) (v : Value) (L' : List Blk) : Prop :=
  ∃ s k l, v = .tuple #[.agg #[.int .u32 z.1.1, .slice s z.1.2.length k], .int .i64 z.2] ∧ SlO 7 30 (.slice s z.1.2.length k) z.1.2.length (z.1.2.flatMap Bk.enc) l ∧ L' = l ++ L
theorem RcM.err {L : List Blk} (e : Int) : RcM L ((0, []), e) (.tuple #[.agg #[.int .u32 0, .slice none 0 0], .int .i64 e]) L := ⟨none, 0, [], rfl, SlO.nil, rfl⟩
set_option maxHeartbeats 8000000 in
theorem xf_ofReceiver {W : World} {L : List Blk} (x : Pb) (hr : Rs W L x.p (ints .u8 x.q.bd)) (hg : x.q.Rg) (hc : x.q.bd.length ≤ x.c) (hn : x.q.bd.length ≤ 1000000) :
    XF Try.prog W 35 #[.agg x.enc.toArray] L (RcM L (ofRc x.q)) := by
  refine xf_enter (args := [_]) Try.func35 rfl Try.ntmps35 rfl ?_
  have hB := rd0_B hr hg hc hn
  have hct := hg.ct
  unfold By at hct
  obtain ⟨⟨ct', kd, bd, pd⟩, xp, xc, xl⟩ := x
  dsimp only at hct hB hr hc hn hg
  obtain ⟨ct, rfl⟩ : ∃ ct : Nat, ct' = ct := ⟨ct'.toNat, by omega⟩
  unfold ofRc
  dsimp only
  rw [show (ct : Int).toNat = ct from rfl]
  generalize hq : (⟨ct, kd, bd, pd⟩ : Pc) = q at *
  generalize hr0 : rd0 q = r0 at *
  subst hq
  unfold Pb.enc Pc.enc
  dsimp only
  focus
    refine xc_seq ?_
    refine xc_region ?_
    refine xo_ef rfl (ef_box rfl fun r1 => ?_)
    refine xo_ef rfl (ef_alloc fun r2 => ?_)
    refine xo_rd (rd_assign rfl) rfl ?_
    refine xo_nil ?_
    refine xq_seq ?_
    refine xc_seq ?_
    refine xc_region ?_
    refine xo_rd (rd_fieldAddr rfl) rfl ?_
    refine xo_rd (rd_load1 rfl (Cl.o1 rfl)) rfl ?_
    refine xo_rd (rd_build rfl rfl rfl) rfl ?_
    refine xo_ef rfl (ef_box rfl fun r10 => ?_)
    refine xo_rd (rd_assign rfl) rfl ?_
    refine xo_nil ?_
    refine xq_seq ?_
  have hbl : (r0.rc ct).1.2.length = ct := Rd.blks_len _ _
  refine xc_join (ι := OfS) (fun z => RdB W L (r0.rc ct).2 z.o ∧ SlO 7 30 (.slice z.s ct z.k) ct ((r0.rc ct).1.2.flatMap Bk.enc) z.l)
    (fun z => (z.r, .cells #[.int .u32 (r0.rc ct).1.1, .slice z.s ct z.k] 83 (0, 0)) :: (r10, z.o) :: (r2, .cells #[.int .u32 0, .slice none 0 0] 83 (0, 0)) :: (r1, .cells #[.int .u8 ct, .int .u8 kd, .slice xp bd.length xc, .int .u8 pd] 81 (0, 0)) :: (L ++ z.l))
    (fun z => [(1, .pointer (some ⟨r1, 0, none⟩)), (2, .pointer (some ⟨r2, 0, none⟩)), (4, .pointer (some ⟨r10, 0, none⟩)), (5, .pointer (some ⟨z.r, 0, none⟩))]) ?_ ?_
  · focus
      refine xc_drawM [0, 1, 0, 0, 8, 22, 34, 0, 255] [0, 1, 0, 0, 8, 22, 34, 0, 255] ([(r1, .cells #[.int .u8 ct, .int .u8 kd, .slice xp bd.length xc, .int .u8 pd] 81 (0, 0))]) (by kernel_rfl) (by kernel_rfl) (by kernel_rfl) ?_
      refine xm_take 0 (m' := 1) rfl (by kernel_rfl) (by first | exact Sb.refl | exact Sb.nil | (repeat (first | exact Sb.nil | exact Sb.refl | exact Sb.app0 | apply Sb.keep | apply Sb.keepApp | apply Sb.cons | apply Sb.app))) (rd_move rfl) rfl (by kernel_rfl) ?_
      refine xm_take 2 (m' := 5) rfl (by kernel_rfl) (by first | exact Sb.refl | exact Sb.nil | (repeat (first | exact Sb.nil | exact Sb.refl | exact Sb.app0 | apply Sb.keep | apply Sb.keepApp | apply Sb.cons | apply Sb.app))) (rd_move rfl) rfl (by kernel_rfl) ?_
      refine xm_take 3 (m' := 13) rfl (by kernel_rfl) (by first | exact Sb.refl | exact Sb.nil | (repeat (first | exact Sb.nil | exact Sb.refl | exact Sb.app0 | apply Sb.keep | apply Sb.keepApp | apply Sb.cons | apply Sb.app))) (rd_fieldAddr rfl) rfl (by kernel_rfl) ?_
      refine xm_take 4 (m' := 29) rfl (by kernel_rfl) (by first | exact Sb.refl | exact Sb.nil | (repeat (first | exact Sb.nil | exact Sb.refl | exact Sb.app0 | apply Sb.keep | apply Sb.keepApp | apply Sb.cons | apply Sb.app))) (rd_load1 rfl (Cl.o0 rfl)) rfl (by kernel_rfl) ?_
      refine xm_two 1 7 (mi := 31) (mk := 157) rfl rfl (by kernel_rfl) rfl rfl (by kernel_rfl) (by kernel_rfl) (ef_call rfl (XF.mono (xr_long _ (by assumption) (fun z hz => by simp [hz])) ?_)) (ef_alloc fun r5 => ⟨(by first | exact Sb.refl | exact Sb.nil | (repeat (first | exact Sb.nil | exact Sb.refl | exact Sb.app0 | apply Sb.keep | apply Sb.keepApp | apply Sb.cons | apply Sb.app))), ?_⟩)
      rotate_left
      rotate_right
      rintro v L' ⟨rfl, o2, ho2, rfl⟩
      refine ⟨(by first | exact Sb.refl | exact Sb.nil | (repeat (first | exact Sb.nil | exact Sb.refl | exact Sb.app0 | apply Sb.keep | apply Sb.keepApp | apply Sb.cons | apply Sb.app))), ?_⟩
      refine xm_two 5 7 (mi := 63) (mk := 159) rfl rfl (by kernel_rfl) rfl rfl (by kernel_rfl) (by kernel_rfl) (ef_call rfl (XF.mono (xr_blocksE _ ct (by omega) (by assumption) (fun z hz => by simp [hz])) ?_)) (ef_alloc fun r5 => ⟨(by first | exact Sb.refl | exact Sb.nil | (repeat (first | exact Sb.nil | exact Sb.refl | exact Sb.app0 | apply Sb.keep | apply Sb.keepApp | apply Sb.cons | apply Sb.app))), ?_⟩)
      rotate_left
      rotate_right
      rintro v L' ⟨s, k, lb, o9, rfl, hO, ho9, rfl⟩
      refine ⟨(by first | exact Sb.refl | exact Sb.nil | (repeat (first | exact Sb.nil | exact Sb.refl | exact Sb.app0 | apply Sb.keep | apply Sb.keepApp | apply Sb.cons | apply Sb.app))), ?_⟩
      refine xm_take 6 (m' := 127) rfl (by kernel_rfl) (by first | exact Sb.refl | exact Sb.nil | (repeat (first | exact Sb.nil | exact Sb.refl | exact Sb.app0 | apply Sb.keep | apply Sb.keepApp | apply Sb.cons | apply Sb.app))) (rd_build rfl rfl rfl) rfl (by kernel_rfl) ?_
      refine xm_one 7 (m' := 255) rfl (by kernel_rfl) rfl (by kernel_rfl) (ef_alloc fun r5 => ?_)
      refine ⟨(by first | exact Sb.refl | exact Sb.nil | (repeat (first | exact Sb.nil | exact Sb.refl | exact Sb.app0 | apply Sb.keep | apply Sb.keepApp | apply Sb.cons | apply Sb.app))), ?_⟩
      refine xm_one 8 (m' := 511) rfl (by kernel_rfl) rfl (by kernel_rfl) (ef_storeB [] _ rfl rfl (by first | rfl | assumption) rfl rfl rfl ?_)
      refine ⟨(by first | exact Sb.refl | exact Sb.nil | (repeat (first | exact Sb.nil | exact Sb.refl | exact Sb.app0 | apply Sb.keep | apply Sb.keepApp | apply Sb.cons | apply Sb.app))), ?_⟩
      refine xm_done (by kernel_rfl) ?_
      rotate_left
      refine xm_one 5 (m' := 191) rfl (by kernel_rfl) rfl (by kernel_rfl) (ef_call rfl (XF.mono (XF.mid [_] (xr_blocksE _ ct (by omega) (by assumption) (fun z hz => by simp [hz]))) ?_))
      rintro v L' ⟨s, k, lb, o9, rfl, hO, ho9, rfl⟩
      refine xmx_mid [_] ?_
      refine ⟨(by first | exact Sb.refl | exact Sb.nil | (repeat (first | exact Sb.nil | exact Sb.refl | exact Sb.app0 | apply Sb.keep | apply Sb.keepApp | apply Sb.cons | apply Sb.app))), ?_⟩
      refine xm_take 6 (m' := 255) rfl (by kernel_rfl) (by first | exact Sb.refl | exact Sb.nil | (repeat (first | exact Sb.nil | exact Sb.refl | exact Sb.app0 | apply Sb.keep | apply Sb.keepApp | apply Sb.cons | apply Sb.app))) (rd_build rfl rfl rfl) rfl (by kernel_rfl) ?_
      refine xm_one 8 (m' := 511) rfl (by kernel_rfl) rfl (by kernel_rfl) (ef_storeB [] _ rfl rfl (by first | rfl | assumption) rfl rfl rfl ?_)
      refine ⟨(by first | exact Sb.refl | exact Sb.nil | (repeat (first | exact Sb.nil | exact Sb.refl | exact Sb.app0 | apply Sb.keep | apply Sb.keepApp | apply Sb.cons | apply Sb.app))), ?_⟩
      refine xm_done (by kernel_rfl) ?_
      rotate_left
      refine xm_one 1 (m' := 159) rfl (by kernel_rfl) rfl (by kernel_rfl) (ef_call rfl (XF.mono (XF.mid [_] (xr_long _ (by assumption) (fun z hz => by simp [hz]))) ?_))
      rintro v L' ⟨rfl, o2, ho2, rfl⟩
      refine xmx_mid [_] ?_
      refine ⟨(by first | exact Sb.refl | exact Sb.nil | (repeat (first | exact Sb.nil | exact Sb.refl | exact Sb.app0 | apply Sb.keep | apply Sb.keepApp | apply Sb.cons | apply Sb.app))), ?_⟩
      refine xm_one 5 (m' := 191) rfl (by kernel_rfl) rfl (by kernel_rfl) (ef_call rfl (XF.mono (XF.mid [_] (xr_blocksE _ ct (by omega) (by assumption) (fun z hz => by simp [hz]))) ?_))
      rintro v L' ⟨s, k, lb, o9, rfl, hO, ho9, rfl⟩
      refine xmx_mid [_] ?_
      refine ⟨(by first | exact Sb.refl | exact Sb.nil | (repeat (first | exact Sb.nil | exact Sb.refl | exact Sb.app0 | apply Sb.keep | apply Sb.keepApp | apply Sb.cons | apply Sb.app))), ?_⟩
      refine xm_take 6 (m' := 255) rfl (by kernel_rfl) (by first | exact Sb.refl | exact Sb.nil | (repeat (first | exact Sb.nil | exact Sb.refl | exact Sb.app0 | apply Sb.keep | apply Sb.keepApp | apply Sb.cons | apply Sb.app))) (rd_build rfl rfl rfl) rfl (by kernel_rfl) ?_
      refine xm_one 8 (m' := 511) rfl (by kernel_rfl) rfl (by kernel_rfl) (ef_storeB [] _ rfl rfl (by first | rfl | assumption) rfl rfl rfl ?_)
      refine ⟨(by first | exact Sb.refl | exact Sb.nil | (repeat (first | exact Sb.nil | exact Sb.refl | exact Sb.app0 | apply Sb.keep | apply Sb.keepApp | apply Sb.cons | apply Sb.app))), ?_⟩
      refine xm_done (by kernel_rfl) ?_
      rotate_left
    all_goals exact xq_joined (⟨r5, o9, s, k, lb⟩ : OfS) ⟨ho9, hO⟩ rfl (by repeat (first | exact keep_nil | refine keep_cons rfl ?_))
  · rintro ⟨r5, o9, s, k, lb⟩ ⟨ho9, hO⟩
    dsimp only at ho9 hO ⊢
    generalize hz : r0.rc ct = z at *
    generalize he : toldE ⟨ct, kd, bd, pd⟩ z.2 201 false = e at *
    have htold : ∀ R, XF Try.prog W 57 #[.pointer (some ⟨r10, 0, none⟩), .agg (Pb.enc ⟨⟨ct, kd, bd, pd⟩, xp, xc, xl⟩).toArray, .int .u8 201, .bool false] ((r10, o9) :: R) (fun v L' => v = .int .i64 e ∧ L' = (r10, o9) :: R) := fun R => by
      have := xr_told (L := R) r10 ho9 ⟨⟨ct, kd, bd, pd⟩, xp, xc, xl⟩ 201 false
      rwa [he] at this
    by_cases h0 : e = 0
    · subst h0
      rw [if_pos rfl]
      focus
        refine xc_seq ?_
        refine xc_seq ?_
        refine xc_region ?_
        refine xo_rd (rd_move rfl) rfl ?_
        refine xo_rd (rd_loadB rfl Kn.o3 (by rfl)) rfl ?_
        refine xo_ef rfl (ef_call rfl (XF.mono (XF.mid [_] (htold _)) ?_))
        rintro v L' ⟨rfl, rfl⟩
        refine xo_mid [_] ?_
        refine xo_rd (rd_assign rfl) rfl ?_
        refine xo_nil ?_
        refine xq_seq ?_
        refine xc_seq ?_
        refine xc_region ?_
        refine xo_rd (rd_move rfl) rfl ?_
        refine xo_rd (rd_neq rfl rfl) rfl ?_
        refine xo_nil ?_
        refine xq_seq ?_
        refine xc_condf rfl ?_
        refine xc_skip ?_
        refine xq_seq ?_
        refine xc_seq ?_
        refine xc_region ?_
        refine xo_rd (rd_loadB rfl Kn.o0 (by rfl)) rfl ?_
        refine xo_ef rfl (ef_storeB [_, _] _ rfl rfl (by first | rfl | assumption) rfl rfl rfl ?_)
        refine xo_rd (rd_assign rfl) rfl ?_
        refine xo_nil ?_
        refine xq_seq ?_
        refine xc_ret ?_
      refine xq_sub (L' := (r2, .cells #[.int .u32 z.1.1, .slice s ct k] 83 (0, 0)) :: (L ++ lb)) (.cons _ (.cons _ (.cons_cons _ (.cons _ (List.Sublist.refl _))))) (xq_perm (List.Perm.cons _ List.perm_append_comm) (xq_retB2 (.inl rfl) Try.results35 rfl rfl Kn.o0 rfl (List.sublist_cons_self _ _) ⟨s, k, lb, ?_, ?_, rfl⟩))
      · rw [hbl]
      · rw [hbl]; exact hO
    · rw [if_neg h0]
      focus
        refine xc_seq ?_
        refine xc_seq ?_
        refine xc_region ?_
        refine xo_rd (rd_move rfl) rfl ?_
        refine xo_rd (rd_loadB rfl Kn.o3 (by rfl)) rfl ?_
        refine xo_ef rfl (ef_call rfl (XF.mono (XF.mid [_] (htold _)) ?_))
        rintro v L' ⟨rfl, rfl⟩
        refine xo_mid [_] ?_
        refine xo_rd (rd_assign rfl) rfl ?_
        refine xo_nil ?_
        refine xq_seq ?_
        refine xc_seq ?_
        refine xc_region ?_
        refine xo_rd (rd_move rfl) rfl ?_
        refine xo_rd (rd_neq rfl rfl) rfl ?_
        refine xo_nil ?_
        refine xq_seq ?_
        refine xc_ndec rfl (fun h1 => ?_) (fun h1 => (by exfalso; omega))
        refine xc_seq ?_
        refine xc_region ?_
        refine xo_rd (rd_build rfl rfl rfl) rfl ?_
        refine xo_rd (rd_move rfl) rfl ?_
        refine xo_ef rfl (ef_storeB [_, _] _ rfl rfl (by first | rfl | assumption) rfl rfl rfl ?_)
        refine xo_rd (rd_assign rfl) rfl ?_
        refine xo_nil ?_
        refine xq_seq ?_
        refine xc_ret ?_
        refine xq_then_ret ?_
      exact xq_retB2 (.inl rfl) Try.results35 rfl rfl Kn.o2 rfl ((List.sublist_append_left L lb).trans (.cons _ (.cons _ (.cons _ (.cons _ (List.Sublist.refl _)))))) (RcM.err e)
def Rd.chs : Nat → Rd → List Ck × Rd
  | 0, r => ([], r)
  | n + 1, r => (r.chunk.1 :: (Rd.chs n r.chunk.2).1, (Rd.chs n r.chunk.2).2)
theorem Rd.chs_len : ∀ (n : Nat) (r : Rd), (Rd.chs n r).1.length = n
  | 0, _ => rfl
  | n + 1, r => by rw [Rd.chs, List.length_cons, Rd.chs_len n]
def ofCh (q : Pc) : List Ck × Int := if toldE q ((rd0 q).chs q.ct.toNat).2 202 true = 0 then (((rd0 q).chs q.ct.toNat).1, 0) else ([], toldE q ((rd0 q).chs q.ct.toNat).2 202 true)
structure ChZ where
  i : Nat
  ys : List Ck
  r : Rd
  o : Obj
  s : Option Addr
  k : Nat
  l : List Blk
set_option maxHeartbeats 8000000 in
theorem xf_ofChunks {W : World} {L : List Blk} (x : Pb) (hr : Rs W L x.p (ints .u8 x.q.bd)) (hg : x.q.Rg) (hc : x.q.bd.length ≤ x.c) (hn : x.q.bd.length ≤ 1000000) :
    XF Try.prog W 36 #[.agg x.enc.toArray] L (fun v L' => ∃ s k l, v = .tuple #[.slice s (ofCh x.q).1.length k, .int .i64 (ofCh x.q).2] ∧ SlO 2 90 (.slice s (ofCh x.q).1.length k) (ofCh x.q).1.length ((ofCh x.q).1.flatMap Ck.enc) l ∧ L' = l ++ L) := by
  refine xf_enter (args := [_]) Try.func36 rfl Try.ntmps36 rfl ?_
  have hB := rd0_B hr hg hc hn
  have hct := hg.ct
  unfold By at hct
  obtain ⟨⟨ct', kd, bd, pd⟩, xp, xc, xl⟩ := x
  dsimp only at hct hB hr hc hn hg
  obtain ⟨ct, rfl⟩ : ∃ ct : Nat, ct' = ct := ⟨ct'.toNat, by omega⟩
  unfold ofCh
  dsimp only
  rw [show (ct : Int).toNat = ct from rfl]
  generalize hq : (⟨ct, kd, bd, pd⟩ : Pc) = q at *
  generalize hr0 : rd0 q = r0 at *
  subst hq
  unfold Pb.enc Pc.enc
  dsimp only
  focus
    refine xc_seq ?_
    refine xc_region ?_
    refine xo_ef rfl (ef_box rfl fun r1 => ?_)
    refine xo_rd (rd_assign rfl) rfl ?_
    refine xo_rd (rd_assign rfl) rfl ?_
    refine xo_nil ?_
    refine xq_seq ?_
    refine xc_seq ?_
    refine xc_region ?_
    refine xo_rd (rd_fieldAddr rfl) rfl ?_
    refine xo_rd (rd_load1 rfl (Cl.o0 rfl)) rfl ?_
    refine xo_rd (rd_build rfl rfl rfl) rfl ?_
    refine xo_ef rfl (ef_box rfl fun r10 => ?_)
    refine xo_rd (rd_assign rfl) rfl ?_
    refine xo_nil ?_
    refine xq_seq ?_
    refine xc_seq ?_
    refine xc_region ?_
    refine xo_rd (rd_assign rfl) rfl ?_
    refine xo_nil ?_
    refine xq_seq ?_
    refine xc_seq ?_
    refine xc_seq ?_
    refine xc_region ?_
    refine xo_rd (rd_fieldAddr rfl) rfl ?_
    refine xo_rd (rd_load1 rfl (Cl.o1 rfl)) rfl ?_
    refine xo_rd (rd_move rfl) rfl ?_
    refine xo_nil ?_
    refine xq_seq ?_
    refine xc_block ?_
  refine xc_loopI (ι := ChZ) (fun z => z.i ≤ ct ∧ z.ys.length = z.i ∧ RdB W L z.r z.o ∧ Rd.chs ct r0 = (z.ys ++ (Rd.chs (ct - z.i) z.r).1, (Rd.chs (ct - z.i) z.r).2) ∧ SlO 2 90 (.slice z.s z.i z.k) z.i (z.ys.flatMap Ck.enc) z.l) (fun z => ct - z.i)
    (fun z => (r10, z.o) :: (r1, .cells #[.int .u8 ct, .int .u8 kd, .slice xp bd.length xc, .int .u8 pd] 81 (0, 0)) :: (z.l ++ L))
    (fun z => [(1, .pointer (some ⟨r1, 0, none⟩)), (4, .pointer (some ⟨r10, 0, none⟩)), (12, .int .u8 ct), (13, .int .u8 z.i), (5, .slice z.s z.i z.k)]) ⟨0, [], r0, _, none, 0, []⟩ ⟨Nat.zero_le _, rfl, hB, rfl, SlO.nil⟩ rfl (by repeat (first | exact keep_nil | refine keep_cons rfl ?_)) ?_
  rintro ⟨i, ys, r, o, s, k, l⟩ ⟨hi, hyl, hB, heq, hO⟩
  dsimp only at hi hyl hB heq hO ⊢
  by_cases hin : i < ct
  · have e1 : Rd.chs (ct - i) r = (r.chunk.1 :: (Rd.chs (ct - (i + 1)) r.chunk.2).1, (Rd.chs (ct - (i + 1)) r.chunk.2).2) := by
      obtain ⟨m, hm⟩ : ∃ m, ct - i = m + 1 := ⟨ct - i - 1, by omega⟩
      rw [hm, show ct - (i + 1) = m from by omega]; rfl
    rw [e1] at heq
    focus
      refine xc_seq ?_
      refine xc_region ?_
      refine xo_rd (rd_lss rfl rfl) rfl ?_
      refine xo_nil ?_
      refine xq_seq ?_
      refine xc_seq ?_
      refine xc_dec rfl (fun h1 => ?_) (fun h1 => (by exfalso; omega))
      refine xc_skip ?_
      refine xq_seq ?_
      refine xc_seq ?_
      refine xc_block ?_
      refine xc_region ?_
      refine xo_rd (rd_move rfl) rfl ?_
      refine xo_rd (rd_move rfl) rfl ?_
      refine xo_ef rfl (ef_call rfl (XF.mono (xr_chunk _ hB (fun z hz => by simp [hz])) ?_))
      rintro v L' ⟨rfl, o2, ho2, rfl⟩
      refine xo_ef rfl (ef_sliceA (vs := r.chunk.1.enc) rfl rfl (by rw [Ck.len]; decide) (by rw [Ck.len]; decide) fun r38 => ?_)
      refine xo_ef rfl (ef_appendS [_, _, _] L l (news := r.chunk.1.enc) rfl rfl hO rfl (Rs.fresh (List.Mem.head _)) rfl rfl (by decide) (by omega) (by omega) fun s' k' l' hO' hk' => ?_)
      refine xo_rd (rd_assign rfl) rfl ?_
      refine xo_nil ?_
      refine xq_block ?_
      refine xq_seq ?_
      refine xc_region ?_
      refine xo_rd (rd_addn rfl rfl (by omega) (by omega)) rfl ?_
      refine xo_rd (rd_move rfl) rfl ?_
      refine xo_nil ?_
    refine xq_tail (xq_roundI (⟨i + 1, ys ++ [r.chunk.1], r.chunk.2, _, s', k', l'⟩ : ChZ) ⟨by dsimp only; omega, by simp [hyl], by assumption, ?_, ?_⟩ (by dsimp only; omega) rfl (by repeat (first | exact keep_nil | refine keep_cons rfl ?_)))
    · rw [heq]; simp only [List.append_assoc, List.singleton_append]
    · dsimp only
      rw [List.flatMap_append, List.flatMap_singleton]
      exact hO'
  · obtain rfl : i = ct := by omega
    rw [Nat.sub_self, show (Rd.chs 0 r).1 = [] from rfl, show (Rd.chs 0 r).2 = r from rfl, List.append_nil] at heq
    rw [heq]
    dsimp only
    generalize he : toldE ⟨i, kd, bd, pd⟩ r 202 true = e at *
    have htold : ∀ R, XF Try.prog W 57 #[.pointer (some ⟨r10, 0, none⟩), .agg (Pb.enc ⟨⟨i, kd, bd, pd⟩, xp, xc, xl⟩).toArray, .int .u8 202, .bool true] ((r10, o) :: R) (fun v L' => v = .int .i64 e ∧ L' = (r10, o) :: R) := fun R => by
      have := xr_told (L := R) r10 hB ⟨⟨i, kd, bd, pd⟩, xp, xc, xl⟩ 202 true
      rwa [he] at this
    by_cases h0 : e = 0
    · subst h0
      rw [if_pos rfl]
      focus
        refine xc_seq ?_
        refine xc_region ?_
        refine xo_rd (rd_lss rfl rfl) rfl ?_
        refine xo_nil ?_
        refine xq_seq ?_
        refine xc_seq ?_
        refine xc_dec rfl (fun h1 => (by exfalso; omega)) (fun h1 => ?_)
        refine xc_exit ?_
        refine xq_then_exit ?_
        refine xq_then_exit ?_
        refine xq_block_hit ?_
        refine xq_seq ?_
        refine xc_seq ?_
        refine xc_seq ?_
        refine xc_region ?_
        refine xo_rd (rd_move rfl) rfl ?_
        refine xo_rd (rd_loadB rfl Kn.o1 (by rfl)) rfl ?_
        refine xo_ef rfl (ef_call rfl (XF.mono (htold _) ?_))
        rintro v L' ⟨rfl, rfl⟩
        refine xo_rd (rd_assign rfl) rfl ?_
        refine xo_nil ?_
        refine xq_seq ?_
        refine xc_seq ?_
        refine xc_region ?_
        refine xo_rd (rd_move rfl) rfl ?_
        refine xo_rd (rd_neq rfl rfl) rfl ?_
        refine xo_nil ?_
        refine xq_seq ?_
        refine xc_condf rfl ?_
        refine xc_skip ?_
        refine xq_seq ?_
        refine xc_seq ?_
        refine xc_region ?_
        refine xo_rd (rd_move rfl) rfl ?_
        refine xo_rd (rd_assign rfl) rfl ?_
        refine xo_rd (rd_assign rfl) rfl ?_
        refine xo_nil ?_
        refine xq_seq ?_
        refine xc_ret ?_
      exact xq_sub (.cons _ (.cons _ (List.Sublist.refl _))) (xq_ret2 (.inl rfl) Try.results36 rfl rfl ⟨s, k, l, by rw [hyl], by rw [hyl]; exact hO, rfl⟩)
    · rw [if_neg h0]
      focus
        refine xc_seq ?_
        refine xc_region ?_
        refine xo_rd (rd_lss rfl rfl) rfl ?_
        refine xo_nil ?_
        refine xq_seq ?_
        refine xc_seq ?_
        refine xc_dec rfl (fun h1 => (by exfalso; omega)) (fun h1 => ?_)
        refine xc_exit ?_
        refine xq_then_exit ?_
        refine xq_then_exit ?_
        refine xq_block_hit ?_
        refine xq_seq ?_
        refine xc_seq ?_
        refine xc_seq ?_
        refine xc_region ?_
        refine xo_rd (rd_move rfl) rfl ?_
        refine xo_rd (rd_loadB rfl Kn.o1 (by rfl)) rfl ?_
        refine xo_ef rfl (ef_call rfl (XF.mono (htold _) ?_))
        rintro v L' ⟨rfl, rfl⟩
        refine xo_rd (rd_assign rfl) rfl ?_
        refine xo_nil ?_
        refine xq_seq ?_
        refine xc_seq ?_
        refine xc_region ?_
        refine xo_rd (rd_move rfl) rfl ?_
        refine xo_rd (rd_neq rfl rfl) rfl ?_
        refine xo_nil ?_
        refine xq_seq ?_
        refine xc_ndec rfl (fun h2 => ?_) (fun h2 => (by exfalso; omega))
        refine xc_seq ?_
        refine xc_region ?_
        refine xo_rd (rd_move rfl) rfl ?_
        refine xo_rd (rd_assign rfl) rfl ?_
        refine xo_rd (rd_assign rfl) rfl ?_
        refine xo_nil ?_
        refine xq_seq ?_
        refine xc_ret ?_
        refine xq_then_ret ?_
      exact xq_sub (.cons _ (.cons _ (List.sublist_append_right l L))) (xq_ret2 (.inl rfl) Try.results36 rfl rfl ⟨none, 0, [], rfl, SlO.nil, rfl⟩)
end Go.Proofs.Ytogilblilljpmaa.X
/-
  Who goes is told: a walk of my own.
-/
namespace Go.Proofs.Ytogilblilljpmaa.X
open Go Go.RowKit
set_option linter.unusedVariables false
set_option linter.unusedSimpArgs false
structure By' where
  so : List Int
  re : ByteArray
def By'.enc (x : By') (v : Value) : List Value := [v, .string x.re]
def Rd.lgs : Nat → Rd → List Int × Rd
  | 0, r => ([], r)
  | n + 1, r => (vl (r.take 4).1 :: (Rd.lgs n (r.take 4).2).1, (Rd.lgs n (r.take 4).2).2)
theorem Rd.lgs_len : ∀ (n : Nat) (r : Rd), (Rd.lgs n r).1.length = n
  | 0, _ => rfl
  | n + 1, r => by rw [Rd.lgs, List.length_cons, Rd.lgs_len n]
def Rd.bye (r : Rd) (n : Nat) : By' × Rd := if 0 < (Rd.lgs n r).2.l.length then (⟨(Rd.lgs n r).1, strOfNums (Rd.lgs n r).2.text.1⟩, (Rd.lgs n r).2.text.2.fill) else (⟨(Rd.lgs n r).1, ⟨#[]⟩⟩, (Rd.lgs n r).2)
def ofBy (q : Pc) : By' × Int := if toldE q ((rd0 q).bye q.ct.toNat).2 203 true = 0 then (((rd0 q).bye q.ct.toNat).1, 0) else (⟨[], ⟨#[]⟩⟩, toldE q ((rd0 q).bye q.ct.toNat).2 203 true)
/-- Who goes, as it is told. -/
def ByM (L : List Blk) (z : By' × Int) (v : Value) (L' : List Blk) : Prop :=
  ∃ s k l, v = .tuple #[.agg (z.1.enc (.slice s z.1.so.length k)).toArray, .int .i64 z.2] ∧ SlO 1 24 (.slice s z.1.so.length k) z.1.so.length (ints .u32 z.1.so) l ∧ L' = l ++ L
theorem ByM.err {L : List Blk} (e : Int) : ByM L (⟨[], ⟨#[]⟩⟩, e) (.tuple #[.agg #[.slice none 0 0, .string ⟨#[]⟩], .int .i64 e]) L := ⟨none, 0, [], rfl, SlO.nil, rfl⟩
structure LgZ where
  i : Nat
  ys : List Int
  r : Rd
  o : Obj
  s : Option Addr
  k : Nat
  l : List Blk
end Go.Proofs.Ytogilblilljpmaa.X
/-
  The reference puts blocks: walks of my own.
-/
namespace Go.Proofs.Ytogilblilljpmaa.X
open Go Go.RowKit
set_option linter.unusedVariables false
set_option linter.unusedSimpArgs false
theorem xf_rlg {W : World} {L : List Blk} (n : Int) (h : U4 n) : XF Try.prog W 71 #[.int .u32 n] L (fun v L' => ∃ s k l, v = .slice s 4 k ∧ SlO 1 5 (.slice s 4 k) 4 (ints .u8 (be4 n)) l ∧ L' = l ++ L) := by
  refine xf_enter (args := [_]) Try.func71 rfl Try.ntmps71 rfl ?_
  unfold U4 at h
  focus
    refine xc_seq ?_
    refine xc_region ?_
    refine xo_rd (rd_assign rfl) rfl ?_
    refine xo_nil ?_
    refine xq_seq ?_
    refine xc_seq ?_
    refine xc_region ?_
    refine xo_rd (rd_move rfl) rfl ?_
    refine xo_rd (rd_convn rfl (by omega) (by omega)) rfl ?_
    refine xo_ef rfl (ef_call rfl (XF.mono (xf_bytes n 4 h.1 (by omega) (by decide)) ?_))
    rintro v L' ⟨s, k, l, rfl, hO, rfl⟩
    refine xo_rd (rd_assign rfl) rfl ?_
    refine xo_nil ?_
    refine xq_seq ?_
    refine xc_ret ?_
  rw [← beK_4]
  exact xq_ret1 (.inl rfl) Try.results71 rfl ⟨s, k, l, rfl, hO, rfl⟩
theorem pad_ne {m : Nat} (h : ¬ (m % 4 = 0)) : (4 - m % 4) % 4 = (4 - (m + 1) % 4) % 4 + 1 := by omega
set_option maxHeartbeats 2000000 in
theorem xf_rfilled {W : World} {L : List Blk} (v : Value) (m : Nat) (xs : List Int) (l : List Blk) (hO : SlO 1 5 v m (ints .u8 xs) l) (hm : m ≤ 1000000000000) :
    XF Try.prog W 73 #[v] (l ++ L) (fun v L' => ∃ s k l', v = .slice s (m + (4 - m % 4) % 4) k ∧ SlO 1 5 (.slice s (m + (4 - m % 4) % 4) k) (m + (4 - m % 4) % 4) (ints .u8 (xs ++ List.replicate ((4 - m % 4) % 4) 0)) l' ∧ L' = l' ++ L) := by
  refine xf_enter (args := [_]) Try.func73 rfl Try.ntmps73 rfl ?_
  obtain ⟨s, k, rfl, hO, hk⟩ := hO.opn
  focus
    refine xc_seq ?_
    refine xc_region ?_
    refine xo_rd (rd_assign rfl) rfl ?_
    refine xo_nil ?_
    refine xq_seq ?_
  refine xc_seq (xc_block ?_)
  refine xc_loopI (ι := LgS) (fun z => m + z.i + (4 - (m + z.i) % 4) % 4 = m + (4 - m % 4) % 4 ∧ z.i ≤ 4 ∧ SlO 1 5 (.slice z.s (m + z.i) z.k) (m + z.i) (ints .u8 (xs ++ List.replicate z.i 0)) z.l) (fun z => (4 - (m + z.i) % 4) % 4) (fun z => z.l ++ L) (fun z => [(0, .slice z.s (m + z.i) z.k)]) ⟨0, s, k, l⟩ ⟨rfl, Nat.zero_le _, by dsimp only; rw [List.replicate_zero, List.append_nil]; exact hO⟩ rfl (by repeat (first | exact keep_nil | refine keep_cons rfl ?_)) ?_
  rintro ⟨i, s, k, l⟩ ⟨heq, hi4, hO⟩
  dsimp only at heq hi4 hO ⊢
  by_cases h4 : (m + i) % 4 = 0
  · have hi : i = (4 - m % 4) % 4 := by omega
    rw [← hi]
    focus
      refine xc_seq ?_
      refine xc_seq ?_
      refine xc_region ?_
      refine xo_rd (rd_move rfl) rfl ?_
      refine xo_rd (rd_len rfl) rfl ?_
      refine xo_rd (rd_remn rfl rfl (by omega) (by omega)) rfl ?_
      refine xo_rd (rd_neq rfl rfl) rfl ?_
      refine xo_nil ?_
      refine xq_seq ?_
      refine xc_ndec rfl (fun hq1 => (by exfalso; omega)) (fun hq1 => ?_)
      refine xc_exit ?_
      refine xq_then_exit ?_
      refine xq_then_exit ?_
      refine xq_block_hit ?_
      refine xq_seq ?_
      refine xc_seq ?_
      refine xc_region ?_
      refine xo_rd (rd_move rfl) rfl ?_
      refine xo_rd (rd_assign rfl) rfl ?_
      refine xo_nil ?_
      refine xq_seq ?_
      refine xc_ret ?_
    exact xq_ret1 (.inl rfl) Try.results73 rfl ⟨s, k, l, rfl, hO, rfl⟩
  · skip
    focus
      refine xc_seq ?_
      refine xc_seq ?_
      refine xc_region ?_
      refine xo_rd (rd_move rfl) rfl ?_
      refine xo_rd (rd_len rfl) rfl ?_
      refine xo_rd (rd_remn rfl rfl (by omega) (by omega)) rfl ?_
      refine xo_rd (rd_neq rfl rfl) rfl ?_
      refine xo_nil ?_
      refine xq_seq ?_
      refine xc_ndec rfl (fun hq1 => ?_) (fun hq1 => (by exfalso; omega))
      refine xc_skip ?_
      refine xq_seq ?_
      refine xc_block ?_
      refine xc_region ?_
      refine xo_rd (rd_move rfl) rfl ?_
      refine xo_ef rfl (ef_slice1 rfl rfl rfl fun r38 => ?_)
      refine xo_ef rfl (ef_appendS [_] L l (news := [.int .u8 0]) rfl rfl hO rfl (Rs.fresh (List.Mem.head _)) rfl rfl (by decide) (by omega) (by omega) fun s' k' l' hO' hk' => ?_)
      refine xo_rd (rd_assign rfl) rfl ?_
      refine xo_nil ?_
      refine xq_block ?_
    refine xq_tail (xq_roundI (⟨i + 1, s', k', l'⟩ : LgS) ⟨by dsimp only; omega, by dsimp only; omega, ?_⟩ (by dsimp only; omega) rfl (by repeat (first | exact keep_nil | refine keep_cons rfl ?_)))
    dsimp only
    rw [List.replicate_succ', ← List.append_assoc, ints_app]
    exact hO'
theorem be4_3 (lo t : Int) (h0 : 0 ≤ lo) (h1 : lo ≤ 255) (h2 : 0 ≤ t) (h3 : t < 16777216) : [lo] ++ beK 3 t = be4 (lo * 16777216 + t) := by
  show [lo, _, _, _] = _
  simp only [be4, List.cons.injEq, and_true]
  refine ⟨?_, ?_, ?_, ?_⟩ <;> omega
theorem perm_p1 {a : Blk} (l2 l R : List Blk) : (l2 ++ (a :: (l ++ R))).Perm (a :: (l ++ (l2 ++ R))) := (by classical exact List.perm_iff_count.2 fun a => by simp only [List.append_eq, List.count_append, List.count_cons, List.count_nil, List.cons_append, List.nil_append, List.flatMap_append, List.flatMap_cons, List.flatMap_nil, List.append_nil]; omega)
theorem perm_p2 {a b : Blk} (l2 l R : List Blk) : (l2 ++ (a :: b :: (l ++ R))).Perm (a :: b :: (l ++ (l2 ++ R))) := (by classical exact List.perm_iff_count.2 fun a => by simp only [List.append_eq, List.count_append, List.count_cons, List.count_nil, List.cons_append, List.nil_append, List.flatMap_append, List.flatMap_cons, List.flatMap_nil, List.append_nil]; omega)
theorem perm_p3 {a b c : Blk} (l2 l R : List Blk) : (l2 ++ (a :: b :: c :: (l ++ R))).Perm (a :: b :: c :: (l ++ (l2 ++ R))) := (by classical exact List.perm_iff_count.2 fun a => by simp only [List.append_eq, List.count_append, List.count_cons, List.count_nil, List.cons_append, List.nil_append, List.flatMap_append, List.flatMap_cons, List.flatMap_nil, List.append_nil]; omega)
set_option maxHeartbeats 8000000 in
theorem xf_rblocks {W : World} {L : List Blk} (p : Option Addr) (n c : Nat) (xs : List Bk) (hx : xs.length = n) (hr : Rs W L p (xs.flatMap Bk.enc)) (hg : ∀ x, x ∈ xs → x.Rg) (hn : n ≤ 1000000) :
    XF Try.prog W 70 #[.slice p n c] L (BlM L (blkR xs)) := by
  refine xf_enter (args := [_]) Try.func70 rfl Try.ntmps70 rfl ?_
  focus
    refine xc_seq ?_
    refine xc_region ?_
    refine xo_rd (rd_assign rfl) rfl ?_
    refine xo_rd (rd_assign rfl) rfl ?_
    refine xo_nil ?_
    refine xq_seq ?_
    refine xc_seq ?_
    refine xc_region ?_
    refine xo_rd (rd_assign rfl) rfl ?_
    refine xo_nil ?_
    refine xq_seq ?_
    refine xc_seq ?_
    refine xc_seq ?_
    refine xc_region ?_
    refine xo_rd (rd_assign rfl) rfl ?_
    refine xo_nil ?_
    refine xq_seq ?_
    refine xc_block ?_
  refine xc_loopI (ι := LgS) (fun z => z.i ≤ n ∧ (∀ j (h : j < xs.length), j < z.i → xs[j].fit = true) ∧ SlO 1 5 (.slice z.s (24 * z.i) z.k) (24 * z.i) (ints .u8 ((xs.take z.i).flatMap bkL)) z.l) (fun z => n - z.i) (fun z => z.l ++ L) (fun z => [(0, .slice p n c), (4, .slice z.s (24 * z.i) z.k), (5, .int .i64 z.i)]) ⟨0, none, 0, []⟩ ⟨Nat.zero_le _, (fun j h hj => absurd hj (Nat.not_lt_zero _)), SlO.nil⟩ rfl (by repeat (first | exact keep_nil | refine keep_cons rfl ?_)) ?_
  rintro ⟨i, s3, k3, l3⟩ ⟨hi, hok, hO3⟩
  dsimp only at hi hok hO3 ⊢
  by_cases hin : i < n
  · obtain ⟨b, o, hp, hc⟩ := hr.rows Bk.len (by decide) (by omega)
    subst hp
    have hci := hc i (by omega)
    have hgx := hg xs[i] (List.getElem_mem _)
    have e1 : xs.take (i + 1) = xs.take i ++ [xs[i]] := by rw [List.take_add_one, List.getElem?_eq_getElem (by omega)]; rfl
    have hbad : xs[i].fit = false → blkR xs = ([], false) := fun h => by
      unfold blkR
      rw [if_neg]
      intro ha
      have := List.all_eq_true.1 ha xs[i] (List.getElem_mem _)
      rw [h] at this; cases this
    have hok' : xs[i].fit = true → ∀ j (h : j < xs.length), j < i + 1 → xs[j].fit = true := fun h j hj hji => by
      by_cases hji2 : j < i
      · exact hok j hj hji2
      · obtain rfl : j = i := by omega
        exact h
    generalize xs[i] = x at *
    have hcI : ∀ L', (∀ z, z ∈ L → z ∈ L') → ∀ (j : Nat) (u : Value), x.enc[j]? = some u → Cl W L' b (o + (i : Int).toNat * 7 + j) u := fun L' h j u hj => (hci j u hj).mono h
    have h1 := hgx.ss; have h2 := hgx.lo; have h3 := hgx.to; have h4 := hgx.hi; have h5 := hgx.ji; have h6 := hgx.ls; have h7 := hgx.dl
    obtain ⟨ss, lo, to, hi', ji, ls, dl⟩ := x
    dsimp only [By] at h1 h2 h3 h4 h5 h6 h7
    by_cases hf : -8388608 ≤ to ∧ to ≤ 8388607
    · skip
      focus
        refine xc_seq ?_
        refine xc_seq ?_
        refine xc_region ?_
        refine xo_rd (rd_move rfl) rfl ?_
        refine xo_rd (rd_move rfl) rfl ?_
        refine xo_rd (rd_len rfl) rfl ?_
        refine xo_rd (rd_lss rfl rfl) rfl ?_
        refine xo_nil ?_
        refine xq_seq ?_
        refine xc_dec rfl (fun hq1 => ?_) (fun hq1 => (by exfalso; omega))
        refine xc_skip ?_
        refine xq_seq ?_
        refine xc_seq ?_
        refine xc_block ?_
        refine xc_seq ?_
        refine xc_region ?_
        refine xo_rd (rd_move rfl) rfl ?_
        refine xo_rd (rd_move rfl) rfl ?_
        refine xo_rd (rd_indexAddr rfl rfl (by omega) (by omega)) rfl ?_
        refine xo_rd (rd_loadA (vs := [Value.int .u32 ss, .int .u8 lo, .int .i32 to, .int .u32 hi', .int .u32 ji, .int .u32 ls, .int .u32 dl]) rfl rfl (hcI _ (by intro z hz; simp [hz]))) rfl ?_
        refine xo_ef rfl (ef_alloc fun r6 => ?_)
        refine xo_ef rfl (ef_storeB [] _ rfl rfl (by first | rfl | assumption) rfl rfl rfl ?_)
        refine xo_nil ?_
        refine xq_seq ?_
        refine xc_seq ?_
        refine xc_seq ?_
        refine xc_region ?_
        refine xo_rd (rd_fieldAddr rfl) rfl ?_
        refine xo_rd (rd_load1 rfl (Cl.o0 rfl)) rfl ?_
        refine xo_rd (rd_lss rfl rfl) rfl ?_
        refine xo_rd (rd_move rfl) rfl ?_
        refine xo_dec 22 rfl (fun hq2 => (by exfalso; omega)) (fun hq2 => ?_)
        refine xo_grd rfl rfl (rd_fieldAddr rfl) rfl ?_
        refine xo_grd rfl rfl (rd_load1 rfl (Cl.o0 rfl)) rfl ?_
        refine xo_grd rfl rfl (rd_gtr rfl rfl) rfl ?_
        refine xo_rd (rd_pickf rfl rfl) rfl ?_
        refine xo_nil ?_
        refine xq_seq ?_
        refine xc_dec rfl (fun hq3 => (by exfalso; omega)) (fun hq3 => ?_)
        refine xc_skip ?_
        refine xq_seq ?_
        refine xc_seq ?_
        refine xc_region ?_
        refine xo_rd (rd_fieldAddr rfl) rfl ?_
        refine xo_rd (rd_load1 rfl (Cl.o0 rfl)) rfl ?_
        refine xo_rd (rd_addn rfl rfl (by omega) (by omega)) rfl ?_
        refine xo_rd (rd_convn rfl (by omega) (by omega)) rfl ?_
        refine xo_rd (rd_cast (v' := .int .u64 (to % 16777216)) (rd_remn rfl rfl (by omega) (by decide)) (congrArg (Value.int .u64) (show (to + 16777216) % 16777216 = to % 16777216 from by omega))) rfl ?_
        refine xo_rd (rd_assign rfl) rfl ?_
        refine xo_nil ?_
        refine xq_seq ?_
        refine xc_seq ?_
        refine xc_region ?_
        refine xo_rd (rd_move rfl) rfl ?_
        refine xo_rd (rd_fieldAddr rfl) rfl ?_
        refine xo_rd (rd_load1 rfl (Cl.o0 rfl)) rfl ?_
        refine xo_ef rfl (ef_call rfl (XF.mono (xf_rlg ss h1) ?_))
        rintro v L' ⟨s2, k2, l2, rfl, hO2, rfl⟩
        refine xo_perm (perm_p1 l2 l3 _) ?_
        refine xo_ef rfl (ef_appendS [_] _ l3 (news := ints .u8 (be4 ss)) rfl rfl hO3 rfl (hO2.rs (by intro z hz; simp [hz])) rfl rfl (by decide) (by omega) (by omega) fun s3 k3 l3 hO3 hk3 => ?_)
        refine xo_rd (rd_assign rfl) rfl ?_
        refine xo_nil ?_
        refine xq_seq ?_
        refine xc_seq ?_
        refine xc_region ?_
        refine xo_rd (rd_move rfl) rfl ?_
        refine xo_rd (rd_fieldAddr rfl) rfl ?_
        refine xo_rd (rd_load1 rfl (Cl.o0 rfl)) rfl ?_
        refine xo_ef rfl (ef_slice1 rfl rfl rfl fun r40 => ?_)
        refine xo_ef rfl (ef_appendS [_, _] _ l3 (news := [.int .u8 lo]) rfl rfl hO3 rfl (Rs.fresh (List.Mem.head _)) rfl rfl (by decide) (by omega) (by omega) fun s3 k3 l3 hO3 hk3 => ?_)
        refine xo_rd (rd_assign rfl) rfl ?_
        refine xo_nil ?_
        refine xq_seq ?_
        refine xc_seq ?_
        refine xc_region ?_
        refine xo_rd (rd_move rfl) rfl ?_
        refine xo_rd (rd_move rfl) rfl ?_
        refine xo_ef rfl (ef_call rfl (XF.mono (xf_bytes (to % 16777216) 3 (by omega) (by omega) (by decide)) ?_))
        rintro v L' ⟨s2, k2, l2, rfl, hO2, rfl⟩
        refine xo_perm (perm_p2 l2 l3 _) ?_
        refine xo_ef rfl (ef_appendS [_, _] _ l3 (news := ints .u8 (beK 3 (to % 16777216))) rfl rfl hO3 rfl (hO2.rs (by intro z hz; simp [hz])) rfl rfl (by decide) (by omega) (by omega) fun s3 k3 l3 hO3 hk3 => ?_)
        refine xo_rd (rd_assign rfl) rfl ?_
        refine xo_nil ?_
        refine xq_seq ?_
        refine xc_seq ?_
        refine xc_region ?_
        refine xo_rd (rd_assign rfl) rfl ?_
        refine xo_nil ?_
        refine xq_seq ?_
        refine xc_block ?_
      have hO4 : SlO 1 5 (.slice s3 (24 * i + 8 + 4 * 0) k3) (24 * i + 8 + 4 * 0) (ints .u8 ((xs.take i).flatMap bkL ++ (be4 ss ++ be4 (lo * 16777216 + to % 16777216)) ++ ([hi', ji, ls, dl].take 0).flatMap be4)) l3 := by
        rw [← be4_3 lo (to % 16777216) h2.1 h2.2 (by omega) (by omega)]
        simp only [List.take_zero, List.flatMap_nil, List.append_nil, ints_app, List.append_assoc] at hO3 ⊢
        exact hO3
      generalize hacc : (xs.take i).flatMap bkL ++ (be4 ss ++ be4 (lo * 16777216 + to % 16777216)) = acc at *
      refine xc_sub (L' := (r6, .cells #[Value.int .u32 ss, .int .u8 lo, .int .i32 to, .int .u32 hi', .int .u32 ji, .int .u32 ls, .int .u32 dl] 35 (0, 0)) :: (l3 ++ L)) (.cons _ (.cons_cons _ (List.Sublist.append_left ((List.sublist_append_right _ L).trans (List.sublist_append_right _ _)) l3))) ?_
      refine xc_loopI (ι := LgS) (fun z => z.i ≤ 4 ∧ SlO 1 5 (.slice z.s (24 * i + 8 + 4 * z.i) z.k) (24 * i + 8 + 4 * z.i) (ints .u8 (acc ++ ([hi', ji, ls, dl].take z.i).flatMap be4)) z.l) (fun z => 4 - z.i) (fun z => (r6, .cells #[Value.int .u32 ss, .int .u8 lo, .int .i32 to, .int .u32 hi', .int .u32 ji, .int .u32 ls, .int .u32 dl] 35 (0, 0)) :: (z.l ++ L)) (fun z => [(0, .slice (some ⟨b, o, none⟩) n c), (4, .slice z.s (24 * i + 8 + 4 * z.i) z.k), (5, .int .i64 i), (6, .pointer (some ⟨r6, 0, none⟩)), (8, .int .i64 z.i)]) ⟨0, s3, k3, l3⟩ ⟨Nat.zero_le _, hO4⟩ rfl (by repeat (first | exact keep_nil | refine keep_cons rfl ?_)) ?_
      clear hO3 hO4
      rintro ⟨j, s3, k3, l3⟩ ⟨hj, hO3⟩
      dsimp only at hj hO3 ⊢
      by_cases hj4 : j < 4
      · have hv : U4 ([hi', ji, ls, dl][j]'(by simpa using hj4)) := by
          have : ∀ z, z ∈ [hi', ji, ls, dl] → U4 z := fun z hz => by
            simp only [List.mem_cons, List.not_mem_nil, or_false] at hz
            rcases hz with rfl | rfl | rfl | rfl <;> assumption
          exact this _ (List.getElem_mem _)
        have ht : [hi', ji, ls, dl].take (j + 1) = [hi', ji, ls, dl].take j ++ [[hi', ji, ls, dl][j]'(by simpa using hj4)] := by rw [List.take_add_one, List.getElem?_eq_getElem (by simpa using hj4)]; rfl
        have hk : (ints .u32 [hi', ji, ls, dl]).toArray[0 + (j : Int).toNat * 1]? = some (.int .u32 ([hi', ji, ls, dl][j]'(by simpa using hj4))) := by
          rw [List.getElem?_toArray, show 0 + (j : Int).toNat * 1 = j from by omega]
          exact ints_get _ _ _ _
        generalize [hi', ji, ls, dl][j]'(by simpa using hj4) = v at *
        focus
          refine xc_seq ?_
          refine xc_seq ?_
          refine xc_region ?_
          refine xo_rd (rd_move rfl) rfl ?_
          refine xo_rd (rd_lss rfl rfl) rfl ?_
          refine xo_nil ?_
          refine xq_seq ?_
          refine xc_dec rfl (fun hq1 => ?_) (fun hq1 => (by exfalso; omega))
          refine xc_skip ?_
          refine xq_seq ?_
          refine xc_seq ?_
          refine xc_block ?_
          refine xc_region ?_
          refine xo_rd (rd_move rfl) rfl ?_
          refine xo_rd (rd_fieldAddr rfl) rfl ?_
          refine xo_rd (rd_load1 rfl (Cl.o0 rfl)) rfl ?_
          refine xo_rd (rd_fieldAddr rfl) rfl ?_
          refine xo_rd (rd_load1 rfl (Cl.o0 rfl)) rfl ?_
          refine xo_rd (rd_fieldAddr rfl) rfl ?_
          refine xo_rd (rd_load1 rfl (Cl.o0 rfl)) rfl ?_
          refine xo_rd (rd_fieldAddr rfl) rfl ?_
          refine xo_rd (rd_load1 rfl (Cl.o0 rfl)) rfl ?_
          refine xo_ef rfl (ef_buildL (T := 48) (len := 4) (s := 1) (cells := (ints .u32 [hi', ji, ls, dl]).toArray) rfl (by decide) (by decide) (by kernel_rfl) fun r59 => ?_)
          refine xo_rd (rd_move rfl) rfl ?_
          refine xo_rd (rd_indexAddr rfl rfl (by omega) (by omega)) rfl ?_
          refine xo_rd (rd_load1 rfl (Cl.own (cs := (ints .u32 [hi', ji, ls, dl]).toArray) (List.Mem.head _) hk)) rfl ?_
          refine xo_ef rfl (ef_call rfl (XF.mono (xf_rlg v hv) ?_))
          rintro v L' ⟨s2, k2, l2, rfl, hO2, rfl⟩
          refine xo_perm (perm_p2 l2 l3 _) ?_
          refine xo_ef rfl (ef_appendS [_, _] _ l3 (news := ints .u8 (be4 v)) rfl rfl hO3 rfl (hO2.rs (by intro z hz; simp [hz])) rfl rfl (by decide) (by omega) (by omega) fun s4 k4 l4 hO4 hk4 => ?_)
          refine xo_rd (rd_assign rfl) rfl ?_
          refine xo_nil ?_
          refine xq_block ?_
          refine xq_seq ?_
          refine xc_region ?_
          refine xo_rd (rd_move rfl) rfl ?_
          refine xo_rd (rd_addn rfl rfl (by omega) (by omega)) rfl ?_
          refine xo_rd (rd_assign rfl) rfl ?_
          refine xo_nil ?_
        refine xq_sub (L' := (r6, .cells #[Value.int .u32 ss, .int .u8 lo, .int .i32 to, .int .u32 hi', .int .u32 ji, .int .u32 ls, .int .u32 dl] 35 (0, 0)) :: (l4 ++ L)) (.cons _ (.cons_cons _ (List.Sublist.append_left (List.sublist_append_right _ L) l4))) (xq_roundI (⟨j + 1, s4, k4, l4⟩ : LgS) ⟨by dsimp only; omega, ?_⟩ (by dsimp only; omega) rfl (by repeat (first | exact keep_nil | refine keep_cons rfl ?_)))
        dsimp only
        rw [ht, List.flatMap_append, List.flatMap_singleton, ← List.append_assoc, ints_app _ _ (be4 v)]
        exact hO4
      · obtain rfl : j = 4 := by omega
        focus
          refine xc_seq ?_
          refine xc_seq ?_
          refine xc_region ?_
          refine xo_rd (rd_move rfl) rfl ?_
          refine xo_rd (rd_lss rfl rfl) rfl ?_
          refine xo_nil ?_
          refine xq_seq ?_
          refine xc_condf rfl ?_
          refine xc_exit ?_
          refine xq_then_exit ?_
          refine xq_then_exit ?_
          refine xq_block_hit ?_
          refine xq_block ?_
          refine xq_seq ?_
          refine xc_region ?_
          refine xo_rd (rd_move rfl) rfl ?_
          refine xo_rd (rd_addn rfl rfl (by omega) (by omega)) rfl ?_
          refine xo_rd (rd_assign rfl) rfl ?_
          refine xo_nil ?_
        refine xq_tail (xq_roundI (⟨i + 1, s3, k3, l3⟩ : LgS) ⟨by dsimp only; omega, hok' (decide_eq_true hf), ?_⟩ (by dsimp only; omega) rfl (by repeat (first | exact keep_nil | refine keep_cons rfl ?_)))
        dsimp only
        rw [e1, List.flatMap_append, List.flatMap_singleton]
        rw [← hacc, List.append_assoc] at hO3
        exact hO3
    · rw [hbad (decide_eq_false hf)]
      focus
        refine xc_seq ?_
        refine xc_seq ?_
        refine xc_region ?_
        refine xo_rd (rd_move rfl) rfl ?_
        refine xo_rd (rd_move rfl) rfl ?_
        refine xo_rd (rd_len rfl) rfl ?_
        refine xo_rd (rd_lss rfl rfl) rfl ?_
        refine xo_nil ?_
        refine xq_seq ?_
        refine xc_dec rfl (fun hq1 => ?_) (fun hq1 => (by exfalso; omega))
        refine xc_skip ?_
        refine xq_seq ?_
        refine xc_seq ?_
        refine xc_block ?_
        refine xc_seq ?_
        refine xc_region ?_
        refine xo_rd (rd_move rfl) rfl ?_
        refine xo_rd (rd_move rfl) rfl ?_
        refine xo_rd (rd_indexAddr rfl rfl (by omega) (by omega)) rfl ?_
        refine xo_rd (rd_loadA (vs := [Value.int .u32 ss, .int .u8 lo, .int .i32 to, .int .u32 hi', .int .u32 ji, .int .u32 ls, .int .u32 dl]) rfl rfl (hcI _ (by intro z hz; simp [hz]))) rfl ?_
        refine xo_ef rfl (ef_alloc fun r6 => ?_)
        refine xo_ef rfl (ef_storeB [] _ rfl rfl (by first | rfl | assumption) rfl rfl rfl ?_)
        refine xo_nil ?_
        refine xq_seq ?_
        refine xc_seq ?_
        refine xc_seq ?_
        refine xc_region ?_
        refine xo_rd (rd_fieldAddr rfl) rfl ?_
        refine xo_rd (rd_load1 rfl (Cl.o0 rfl)) rfl ?_
        refine xo_rd (rd_lss rfl rfl) rfl ?_
        refine xo_rd (rd_move rfl) rfl ?_
        refine xo_dec 22 rfl (fun hq2 => ?_) (fun hq2 => ?_)
        refine xo_gskip rfl rfl rfl rfl ?_
        refine xo_gskip rfl rfl rfl rfl ?_
        refine xo_gskip rfl rfl rfl rfl ?_
        refine xo_rd (rd_pickt rfl rfl) rfl ?_
        refine xo_nil ?_
        refine xq_seq ?_
        refine xc_condt rfl ?_
        refine xc_seq ?_
        refine xc_region ?_
        refine xo_rd (rd_assign rfl) rfl ?_
        refine xo_rd (rd_assign rfl) rfl ?_
        refine xo_nil ?_
        refine xq_seq ?_
        refine xc_ret ?_
        refine xq_then_ret ?_
        refine xq_block_ret ?_
        refine xq_then_ret ?_
        refine xq_then_ret ?_
        refine xq_block_ret ?_
        refine xq_then_ret ?_
        rotate_left
        refine xo_grd rfl rfl (rd_fieldAddr rfl) rfl ?_
        refine xo_grd rfl rfl (rd_load1 rfl (Cl.o0 rfl)) rfl ?_
        refine xo_grd rfl rfl (rd_gtr rfl rfl) rfl ?_
        refine xo_rd (rd_pickf rfl rfl) rfl ?_
        refine xo_nil ?_
        refine xq_seq ?_
        refine xc_dec rfl (fun hq3 => ?_) (fun hq3 => (by exfalso; omega))
        refine xc_seq ?_
        refine xc_region ?_
        refine xo_rd (rd_assign rfl) rfl ?_
        refine xo_rd (rd_assign rfl) rfl ?_
        refine xo_nil ?_
        refine xq_seq ?_
        refine xc_ret ?_
        refine xq_then_ret ?_
        refine xq_block_ret ?_
        refine xq_then_ret ?_
        refine xq_then_ret ?_
        refine xq_block_ret ?_
        refine xq_then_ret ?_
        rotate_left
      all_goals exact xq_sub (.cons _ (List.sublist_append_right l3 L)) (xq_ret2 (.inl rfl) Try.results70 rfl rfl ⟨none, 0, [], rfl, SlO.nil, rfl⟩)
  · focus
      refine xc_seq ?_
      refine xc_seq ?_
      refine xc_region ?_
      refine xo_rd (rd_move rfl) rfl ?_
      refine xo_rd (rd_move rfl) rfl ?_
      refine xo_rd (rd_len rfl) rfl ?_
      refine xo_rd (rd_lss rfl rfl) rfl ?_
      refine xo_nil ?_
      refine xq_seq ?_
      refine xc_dec rfl (fun h1 => (by exfalso; omega)) (fun h1 => ?_)
      refine xc_exit ?_
      refine xq_then_exit ?_
      refine xq_then_exit ?_
      refine xq_block_hit ?_
      refine xq_seq ?_
      refine xc_seq ?_
      refine xc_region ?_
      refine xo_rd (rd_move rfl) rfl ?_
      refine xo_rd (rd_move rfl) rfl ?_
      refine xo_rd (rd_len rfl) rfl ?_
      refine xo_rd (rd_leq rfl rfl) rfl ?_
      refine xo_rd (rd_assign rfl) rfl ?_
      refine xo_rd (rd_assign rfl) rfl ?_
      refine xo_nil ?_
      refine xq_seq ?_
      refine xc_ret ?_
    obtain rfl : i = n := by omega
    rw [List.take_of_length_le (by omega)] at hO3
    have hall : xs.all Bk.fit = true := List.all_eq_true.2 fun x hx => by
      obtain ⟨j, hj, rfl⟩ := List.getElem_of_mem hx
      exact hok j hj (by omega)
    have e2 : blkR xs = (xs.flatMap bkL, decide ((i : Int) ≤ 31)) := by
      unfold blkR
      rw [if_pos hall]
      congr 1
      by_cases h : i ≤ 31
      · rw [decide_eq_true (show xs.length ≤ 31 by omega), decide_eq_true (show (i : Int) ≤ 31 by omega)]
      · rw [decide_eq_false (show ¬ xs.length ≤ 31 by omega), decide_eq_false (show ¬ (i : Int) ≤ 31 by omega)]
    rw [e2]
    refine xq_ret2 (.inl rfl) Try.results70 rfl rfl ⟨s3, k3, l3, ?_, ?_, rfl⟩
    · dsimp only; rw [bkLs_len, hx]
    · dsimp only; rw [bkLs_len, hx]; exact hO3
end Go.Proofs.Ytogilblilljpmaa.X
/-
  Senders, receivers and who goes are put: walks of my own.
-/
namespace Go.Proofs.Ytogilblilljpmaa.X
open Go Go.RowKit
set_option linter.unusedVariables false
set_option linter.unusedSimpArgs false
def byeB (x : By') : List Int := if x.re.size = 0 then x.so.flatMap be4 else fil (x.so.flatMap be4 ++ [(x.re.size : Int)] ++ sbs x.re)
def putBy (x : By') : Pc × Int := if 31 < x.so.length ∨ 255 < x.re.size then (.zero, 2) else (⟨x.so.length, 203, byeB x, 0⟩, 0)
theorem xf_rblocks2 {W : World} {L : List Blk} (p : Option Addr) (n c : Nat) (xs : List Bk) (out : List Int) (ok : Bool) (hb : blkR xs = (out, ok)) (hx : xs.length = n) (hr : Rs W L p (xs.flatMap Bk.enc)) (hg : ∀ x, x ∈ xs → x.Rg) (hn : n ≤ 1000000) :
    XF Try.prog W 70 #[.slice p n c] L (fun v L' => ∃ s k l, v = .tuple #[.slice s out.length k, .bool ok] ∧ SlO 1 5 (.slice s out.length k) out.length (ints .u8 out) l ∧ L' = l ++ L) := by
  have := xf_rblocks p n c xs hx hr hg hn
  rwa [hb] at this
set_option maxHeartbeats 4000000 in
theorem xf_rreceiver {W : World} {L : List Blk} (ss : Int) (hs : U4 ss) (p : Option Addr) (n c : Nat) (xs : List Bk) (hx : xs.length = n) (hr : Rs W L p (xs.flatMap Bk.enc)) (hg : ∀ x, x ∈ xs → x.Rg) (hn : n ≤ 1000000) :
    XF Try.prog W 50 #[.agg #[.int .u32 ss, .slice p n c]] L (PuM L (rcvR ss xs)) := by
  refine xf_enter (args := [_]) Try.func50 rfl Try.ntmps50 rfl ?_
  obtain ⟨⟨out, ok⟩, hb⟩ : ∃ z, blkR xs = z := ⟨_, rfl⟩
  have hbo := blkR_ok (bl := xs)
  rw [hb] at hbo
  dsimp only at hbo
  unfold rcvR
  rw [hb]
  dsimp only
  cases ok with
  | false =>
    rw [if_neg (by decide)]
    focus
      refine xc_seq ?_
      refine xc_region ?_
      refine xo_ef rfl (ef_box rfl fun r1 => ?_)
      refine xo_ef rfl (ef_alloc fun r2 => ?_)
      refine xo_rd (rd_assign rfl) rfl ?_
      refine xo_nil ?_
      refine xq_seq ?_
      refine xc_seq ?_
      refine xc_region ?_
      refine xo_rd (rd_fieldAddr rfl) rfl ?_
      refine xo_rd (rd_load1 rfl (Cl.o1 rfl)) rfl ?_
      refine xo_ef rfl (ef_call rfl (XF.mono (xf_rblocks2 p n c xs out _ hb hx (hr.mono (by intro z hz; simp [hz])) hg hn) ?_))
      rintro v L' ⟨s, k, lb, rfl, hO, rfl⟩
      refine xo_perm (perm_in2 lb L) ?_
      refine xo_rd (rd_move rfl) rfl ?_
      refine xo_rd (rd_extract rfl rfl) rfl ?_
      refine xo_rd (rd_extract rfl rfl) rfl ?_
      refine xo_rd (rd_assign rfl) rfl ?_
      refine xo_rd (rd_assign rfl) rfl ?_
      refine xo_nil ?_
      refine xq_seq ?_
      refine xc_seq ?_
      refine xc_seq ?_
      refine xc_region ?_
      refine xo_rd (rd_move rfl) rfl ?_
      refine xo_rd (rd_not rfl) rfl ?_
      refine xo_nil ?_
      refine xq_seq ?_
      refine xc_condt rfl ?_
      refine xc_seq ?_
      refine xc_region ?_
      refine xo_rd (rd_build rfl rfl rfl) rfl ?_
      refine xo_ef rfl (ef_storeB [] _ rfl rfl (by first | rfl | assumption) rfl rfl rfl ?_)
      refine xo_rd (rd_assign rfl) rfl ?_
      refine xo_nil ?_
      refine xq_seq ?_
      refine xc_ret ?_
      refine xq_then_ret ?_
    exact xq_retB2 (.inl rfl) Try.results50 rfl rfl Kn.o0 rfl ((List.sublist_append_right lb L).trans ((List.sublist_cons_self _ _).trans (List.sublist_cons_self _ _))) (PuM.err 2)
  | true =>
    obtain ⟨h31, ho, hfit⟩ := hbo rfl
    rw [if_pos rfl]
    have hol : out.length = 24 * n := by rw [ho, bkLs_len, hx]
    focus
      refine xc_seq ?_
      refine xc_region ?_
      refine xo_ef rfl (ef_box rfl fun r1 => ?_)
      refine xo_ef rfl (ef_alloc fun r2 => ?_)
      refine xo_rd (rd_assign rfl) rfl ?_
      refine xo_nil ?_
      refine xq_seq ?_
      refine xc_seq ?_
      refine xc_region ?_
      refine xo_rd (rd_fieldAddr rfl) rfl ?_
      refine xo_rd (rd_load1 rfl (Cl.o1 rfl)) rfl ?_
      refine xo_ef rfl (ef_call rfl (XF.mono (xf_rblocks2 p n c xs out _ hb hx (hr.mono (by intro z hz; simp [hz])) hg hn) ?_))
      rintro v L' ⟨s, k, lb, rfl, hO, rfl⟩
      refine xo_perm (perm_in2 lb L) ?_
      refine xo_rd (rd_move rfl) rfl ?_
      refine xo_rd (rd_extract rfl rfl) rfl ?_
      refine xo_rd (rd_extract rfl rfl) rfl ?_
      refine xo_rd (rd_assign rfl) rfl ?_
      refine xo_rd (rd_assign rfl) rfl ?_
      refine xo_nil ?_
      refine xq_seq ?_
      refine xc_seq ?_
      refine xc_seq ?_
      refine xc_region ?_
      refine xo_rd (rd_move rfl) rfl ?_
      refine xo_rd (rd_not rfl) rfl ?_
      refine xo_nil ?_
      refine xq_seq ?_
      refine xc_condf rfl ?_
      refine xc_skip ?_
      refine xq_seq ?_
      refine xc_seq ?_
      refine xc_drawM [0, 1, 2, 4, 0, 16, 32, 0, 192, 264, 1023, 2047] [0, 1, 2, 4, 0, 16, 32, 0, 192, 264, 1023, 2047] ([(r1, .cells #[.int .u32 ss, .slice p n c] 119 (0, 0))]) (by kernel_rfl) (by kernel_rfl) (by kernel_rfl) ?_
      refine xm_take 0 (m' := 1) rfl (by kernel_rfl) (by first | exact Sb.refl | exact Sb.nil | (repeat (first | exact Sb.nil | exact Sb.refl | exact Sb.app0 | apply Sb.keep | apply Sb.keepApp | apply Sb.cons | apply Sb.app))) (rd_fieldAddr rfl) rfl (by kernel_rfl) ?_
      refine xm_take 1 (m' := 3) rfl (by kernel_rfl) (by first | exact Sb.refl | exact Sb.nil | (repeat (first | exact Sb.nil | exact Sb.refl | exact Sb.app0 | apply Sb.keep | apply Sb.keepApp | apply Sb.cons | apply Sb.app))) (rd_load1 rfl (Cl.o0 rfl)) rfl (by kernel_rfl) ?_
      refine xm_take 2 (m' := 7) rfl (by kernel_rfl) (by first | exact Sb.refl | exact Sb.nil | (repeat (first | exact Sb.nil | exact Sb.refl | exact Sb.app0 | apply Sb.keep | apply Sb.keepApp | apply Sb.cons | apply Sb.app))) (rd_len rfl) rfl (by kernel_rfl) ?_
      refine xm_take 3 (m' := 15) rfl (by kernel_rfl) (by first | exact Sb.refl | exact Sb.nil | (repeat (first | exact Sb.nil | exact Sb.refl | exact Sb.app0 | apply Sb.keep | apply Sb.keepApp | apply Sb.cons | apply Sb.app))) (rd_convn rfl (by omega) (by omega)) rfl (by kernel_rfl) ?_
      refine xm_take 4 (m' := 31) rfl (by kernel_rfl) (by first | exact Sb.refl | exact Sb.nil | (repeat (first | exact Sb.nil | exact Sb.refl | exact Sb.app0 | apply Sb.keep | apply Sb.keepApp | apply Sb.cons | apply Sb.app))) (rd_fieldAddr rfl) rfl (by kernel_rfl) ?_
      refine xm_take 5 (m' := 63) rfl (by kernel_rfl) (by first | exact Sb.refl | exact Sb.nil | (repeat (first | exact Sb.nil | exact Sb.refl | exact Sb.app0 | apply Sb.keep | apply Sb.keepApp | apply Sb.cons | apply Sb.app))) (rd_load1 rfl (Cl.o0 rfl)) rfl (by kernel_rfl) ?_
      refine xm_take 7 (m' := 191) rfl (by kernel_rfl) (by first | exact Sb.refl | exact Sb.nil | (repeat (first | exact Sb.nil | exact Sb.refl | exact Sb.app0 | apply Sb.keep | apply Sb.keepApp | apply Sb.cons | apply Sb.app))) (rd_move rfl) rfl (by kernel_rfl) ?_
      refine xm_one 6 (m' := 255) rfl (by kernel_rfl) rfl (by kernel_rfl) (ef_call rfl (XF.mono (xf_rlg ss hs) ?_))
      rintro v L' ⟨s2, k2, l2, rfl, hO2, rfl⟩
      refine xmx_perm (perm_in2 l2 (lb ++ L)) ?_
      refine ⟨(by first | exact Sb.refl | exact Sb.nil | (repeat (first | exact Sb.nil | exact Sb.refl | exact Sb.app0 | apply Sb.keep | apply Sb.keepApp | apply Sb.cons | apply Sb.app))), ?_⟩
      refine xm_one 8 (m' := 511) rfl (by kernel_rfl) rfl (by kernel_rfl) (ef_appendS [_, _] (lb ++ L) l2 (news := ints .u8 out) rfl rfl hO2 rfl (hO.rs (by intro z hz; simp [hz])) (by rw [ints_len, Nat.mul_one]) (ints_one _ _) (by decide) (by omega) (by omega) fun s3 k3 l3 hO3 hk3 => ?_)
      refine ⟨(by first | exact Sb.refl | exact Sb.nil | (repeat (first | exact Sb.nil | exact Sb.refl | exact Sb.app0 | apply Sb.keep | apply Sb.keepApp | apply Sb.cons | apply Sb.app))), ?_⟩
      refine xm_take 9 (m' := 1023) rfl (by kernel_rfl) (by first | exact Sb.refl | exact Sb.nil | (repeat (first | exact Sb.nil | exact Sb.refl | exact Sb.app0 | apply Sb.keep | apply Sb.keepApp | apply Sb.cons | apply Sb.app))) (rd_build rfl rfl rfl) rfl (by kernel_rfl) ?_
      refine xm_one 10 (m' := 2047) rfl (by kernel_rfl) rfl (by kernel_rfl) (ef_storeB [] _ rfl rfl (by first | rfl | assumption) rfl rfl rfl ?_)
      refine ⟨(by first | exact Sb.refl | exact Sb.nil | (repeat (first | exact Sb.nil | exact Sb.refl | exact Sb.app0 | apply Sb.keep | apply Sb.keepApp | apply Sb.cons | apply Sb.app))), ?_⟩
      refine xm_take 11 (m' := 4095) rfl (by kernel_rfl) (by first | exact Sb.refl | exact Sb.nil | (repeat (first | exact Sb.nil | exact Sb.refl | exact Sb.app0 | apply Sb.keep | apply Sb.keepApp | apply Sb.cons | apply Sb.app))) (rd_assign rfl) rfl (by kernel_rfl) ?_
      refine xm_done (by kernel_rfl) ?_
      refine xq_seq ?_
      refine xc_ret ?_
    have hbl : ([ss].flatMap be4 ++ xs.flatMap bkL).length = 4 * 1 + out.length := by rw [List.length_append, flat4_len, ho]; rfl
    all_goals refine xq_retB2 (.inl rfl) Try.results50 rfl rfl Kn.o0 rfl ((List.Sublist.append_left (List.sublist_append_right lb L) l3).trans ((List.sublist_cons_self _ _).trans (List.sublist_cons_self _ _))) ⟨⟨⟨xs.length, 201, [ss].flatMap be4 ++ xs.flatMap bkL, 0⟩, s3, k3, l3⟩, ?_, rfl, ?_, rfl⟩
    all_goals first | (unfold Pb.enc Pc.enc; dsimp only; rw [hbl, hx]; rfl) | (unfold Pb.Ok; dsimp only; rw [hbl, ints_app, ← ho, List.flatMap_singleton]; exact hO3)
theorem beK_8 (n : Int) (h0 : 0 ≤ n) (h1 : n ≤ 18446744073709551615) : beK 8 n = be4 (n / 4294967296) ++ be4 (n % 4294967296) := by
  show [_, _, _, _, _, _, _, _] = _
  simp only [be4, List.cons_append, List.nil_append, List.cons.injEq, and_true]
  refine ⟨?_, ?_, ?_, ?_, ?_, ?_, ?_, ?_⟩ <;> omega
set_option maxHeartbeats 8000000 in
theorem xf_rsender {W : World} {L : List Blk} (x : Sn) (hx : x.Rg) (p : Option Addr) (c : Nat) (hr : Rs W L p (x.bl.flatMap Bk.enc)) (hn : x.bl.length ≤ 1000000) :
    XF Try.prog W 51 #[.agg (x.enc (.slice p x.bl.length c)).toArray] L (PuM L (sndR x)) := by
  refine xf_enter (args := [_]) Try.func51 rfl Try.ntmps51 rfl ?_
  have g1 := hx.ss; have g2 := hx.nt; have g3 := hx.rt; have g4 := hx.pk; have g5 := hx.oc; have hg := hx.bl
  obtain ⟨ss, nt, rt, pk, oc, xs⟩ := x
  dsimp only [Sn.nums] at hr hn g1 g2 g3 g4 g5 hg
  obtain ⟨⟨out, ok⟩, hb⟩ : ∃ z, blkR xs = z := ⟨_, rfl⟩
  have hbo := blkR_ok (bl := xs)
  rw [hb] at hbo
  dsimp only at hbo
  unfold sndR Sn.enc Sn.nums
  dsimp only
  rw [hb]
  dsimp only
  cases ok with
  | false =>
    rw [if_neg (by decide)]
    focus
      refine xc_seq ?_
      refine xc_region ?_
      refine xo_ef rfl (ef_box rfl fun r1 => ?_)
      refine xo_ef rfl (ef_alloc fun r2 => ?_)
      refine xo_rd (rd_assign rfl) rfl ?_
      refine xo_nil ?_
      refine xq_seq ?_
      refine xc_seq ?_
      refine xc_region ?_
      refine xo_rd (rd_fieldAddr rfl) rfl ?_
      refine xo_rd (rd_load1 rfl (Cl.o1 rfl)) rfl ?_
      refine xo_ef rfl (ef_call rfl (XF.mono (xf_rblocks2 p xs.length c xs out _ hb rfl (hr.mono (by intro z hz; simp [hz])) hg hn) ?_))
      rintro v L' ⟨s, k, lb, rfl, hO, rfl⟩
      refine xo_perm (perm_in2 lb L) ?_
      refine xo_rd (rd_move rfl) rfl ?_
      refine xo_rd (rd_extract rfl rfl) rfl ?_
      refine xo_rd (rd_extract rfl rfl) rfl ?_
      refine xo_rd (rd_assign rfl) rfl ?_
      refine xo_rd (rd_assign rfl) rfl ?_
      refine xo_nil ?_
      refine xq_seq ?_
      refine xc_seq ?_
      refine xc_seq ?_
      refine xc_region ?_
      refine xo_rd (rd_move rfl) rfl ?_
      refine xo_rd (rd_not rfl) rfl ?_
      refine xo_nil ?_
      refine xq_seq ?_
      refine xc_condt rfl ?_
      refine xc_seq ?_
      refine xc_region ?_
      refine xo_rd (rd_build rfl rfl rfl) rfl ?_
      refine xo_ef rfl (ef_storeB [] _ rfl rfl (by first | rfl | assumption) rfl rfl rfl ?_)
      refine xo_rd (rd_assign rfl) rfl ?_
      refine xo_nil ?_
      refine xq_seq ?_
      refine xc_ret ?_
      refine xq_then_ret ?_
    exact xq_retB2 (.inl rfl) Try.results51 rfl rfl Kn.o0 rfl ((List.sublist_append_right lb L).trans ((List.sublist_cons_self _ _).trans (List.sublist_cons_self _ _))) (PuM.err 2)
  | true =>
    obtain ⟨h31, ho, hfit⟩ := hbo rfl
    rw [if_pos rfl]
    have hol : out.length = 24 * xs.length := by rw [ho, bkLs_len]
    focus
      refine xc_seq ?_
      refine xc_region ?_
      refine xo_ef rfl (ef_box rfl fun r1 => ?_)
      refine xo_ef rfl (ef_alloc fun r2 => ?_)
      refine xo_rd (rd_assign rfl) rfl ?_
      refine xo_nil ?_
      refine xq_seq ?_
      refine xc_seq ?_
      refine xc_region ?_
      refine xo_rd (rd_fieldAddr rfl) rfl ?_
      refine xo_rd (rd_load1 rfl (Cl.o1 rfl)) rfl ?_
      refine xo_ef rfl (ef_call rfl (XF.mono (xf_rblocks2 p xs.length c xs out _ hb rfl (hr.mono (by intro z hz; simp [hz])) hg hn) ?_))
      rintro v L' ⟨s, k, lb, rfl, hO, rfl⟩
      refine xo_perm (perm_in2 lb L) ?_
      refine xo_rd (rd_move rfl) rfl ?_
      refine xo_rd (rd_extract rfl rfl) rfl ?_
      refine xo_rd (rd_extract rfl rfl) rfl ?_
      refine xo_rd (rd_assign rfl) rfl ?_
      refine xo_rd (rd_assign rfl) rfl ?_
      refine xo_nil ?_
      refine xq_seq ?_
      refine xc_seq ?_
      refine xc_seq ?_
      refine xc_region ?_
      refine xo_rd (rd_move rfl) rfl ?_
      refine xo_rd (rd_not rfl) rfl ?_
      refine xo_nil ?_
      refine xq_seq ?_
      refine xc_condf rfl ?_
      refine xc_skip ?_
      refine xq_seq ?_
      refine xc_seq ?_
      refine xc_region ?_
      refine xo_rd (rd_fieldAddr rfl) rfl ?_
      refine xo_rd (rd_load1 rfl (Cl.o1 rfl)) rfl ?_
      refine xo_ef rfl (ef_call rfl (XF.mono (xf_rlg ss g1) ?_))
      rintro v L' ⟨s3, k3, l3, rfl, hO3, rfl⟩
      refine xo_perm (perm_in2 l3 (lb ++ L)) ?_
      refine xo_rd (rd_assign rfl) rfl ?_
      refine xo_nil ?_
      refine xq_seq ?_
    focus
      refine xc_seq ?_
      refine xc_region ?_
      refine xo_rd (rd_move rfl) rfl ?_
      refine xo_rd (rd_fieldAddr rfl) rfl ?_
      refine xo_rd (rd_load1 rfl (Cl.o1 rfl)) rfl ?_
      refine xo_ef rfl (ef_call rfl (XF.mono (xf_bytes nt 8 g2.1 g2.2 (by decide)) ?_))
      rintro v L' ⟨s2, k2, l2, rfl, hO2, rfl⟩
      refine xo_perm (perm_p2 l2 l3 _) ?_
      refine xo_ef rfl (ef_appendS [_, _] _ l3 (news := ints .u8 (beK 8 nt)) rfl rfl hO3 rfl (hO2.rs (by intro z hz; simp [hz])) rfl rfl (by decide) (by omega) (by omega) fun s3 k3 l3 hO3 hk3 => ?_)
      refine xo_rd (rd_assign rfl) rfl ?_
      refine xo_nil ?_
      refine xq_seq ?_
      refine xc_seq ?_
      refine xc_region ?_
      refine xo_rd (rd_move rfl) rfl ?_
      refine xo_rd (rd_fieldAddr rfl) rfl ?_
      refine xo_rd (rd_load1 rfl (Cl.o1 rfl)) rfl ?_
      refine xo_ef rfl (ef_call rfl (XF.mono (xf_rlg _ (by assumption)) ?_))
      rintro v L' ⟨s2, k2, l2, rfl, hO2, rfl⟩
      refine xo_perm (perm_p2 l2 l3 _) ?_
      refine xo_ef rfl (ef_appendS [_, _] _ l3 (news := ints .u8 (be4 rt)) rfl rfl hO3 rfl (hO2.rs (by intro z hz; simp [hz])) rfl rfl (by decide) (by omega) (by omega) fun s3 k3 l3 hO3 hk3 => ?_)
      refine xo_rd (rd_assign rfl) rfl ?_
      refine xo_nil ?_
      refine xq_seq ?_
      refine xc_seq ?_
      refine xc_region ?_
      refine xo_rd (rd_move rfl) rfl ?_
      refine xo_rd (rd_fieldAddr rfl) rfl ?_
      refine xo_rd (rd_load1 rfl (Cl.o1 rfl)) rfl ?_
      refine xo_ef rfl (ef_call rfl (XF.mono (xf_rlg _ (by assumption)) ?_))
      rintro v L' ⟨s2, k2, l2, rfl, hO2, rfl⟩
      refine xo_perm (perm_p2 l2 l3 _) ?_
      refine xo_ef rfl (ef_appendS [_, _] _ l3 (news := ints .u8 (be4 pk)) rfl rfl hO3 rfl (hO2.rs (by intro z hz; simp [hz])) rfl rfl (by decide) (by omega) (by omega) fun s3 k3 l3 hO3 hk3 => ?_)
      refine xo_rd (rd_assign rfl) rfl ?_
      refine xo_nil ?_
      refine xq_seq ?_
      refine xc_seq ?_
      refine xc_region ?_
      refine xo_rd (rd_move rfl) rfl ?_
      refine xo_rd (rd_fieldAddr rfl) rfl ?_
      refine xo_rd (rd_load1 rfl (Cl.o1 rfl)) rfl ?_
      refine xo_ef rfl (ef_call rfl (XF.mono (xf_rlg _ (by assumption)) ?_))
      rintro v L' ⟨s2, k2, l2, rfl, hO2, rfl⟩
      refine xo_perm (perm_p2 l2 l3 _) ?_
      refine xo_ef rfl (ef_appendS [_, _] _ l3 (news := ints .u8 (be4 oc)) rfl rfl hO3 rfl (hO2.rs (by intro z hz; simp [hz])) rfl rfl (by decide) (by omega) (by omega) fun s3 k3 l3 hO3 hk3 => ?_)
      refine xo_rd (rd_assign rfl) rfl ?_
      refine xo_nil ?_
      refine xq_seq ?_
    focus
      refine xc_seq ?_
      refine xc_drawM [0, 1, 2, 4, 0, 0, 48, 72, 255, 511] [0, 1, 2, 4, 0, 0, 48, 72, 255, 511] ([(r1, .cells #[.int .u32 ss, .int .u64 nt, .int .u32 rt, .int .u32 pk, .int .u32 oc, .slice p xs.length c] 61 (0, 0))]) (by kernel_rfl) (by kernel_rfl) (by kernel_rfl) ?_
      refine xm_take 0 (m' := 1) rfl (by kernel_rfl) (by first | exact Sb.refl | exact Sb.nil | (repeat (first | exact Sb.nil | exact Sb.refl | exact Sb.app0 | apply Sb.keep | apply Sb.keepApp | apply Sb.cons | apply Sb.app))) (rd_fieldAddr rfl) rfl (by kernel_rfl) ?_
      refine xm_take 1 (m' := 3) rfl (by kernel_rfl) (by first | exact Sb.refl | exact Sb.nil | (repeat (first | exact Sb.nil | exact Sb.refl | exact Sb.app0 | apply Sb.keep | apply Sb.keepApp | apply Sb.cons | apply Sb.app))) (rd_load1 rfl (Cl.o0 rfl)) rfl (by kernel_rfl) ?_
      refine xm_take 2 (m' := 7) rfl (by kernel_rfl) (by first | exact Sb.refl | exact Sb.nil | (repeat (first | exact Sb.nil | exact Sb.refl | exact Sb.app0 | apply Sb.keep | apply Sb.keepApp | apply Sb.cons | apply Sb.app))) (rd_len rfl) rfl (by kernel_rfl) ?_
      refine xm_take 3 (m' := 15) rfl (by kernel_rfl) (by first | exact Sb.refl | exact Sb.nil | (repeat (first | exact Sb.nil | exact Sb.refl | exact Sb.app0 | apply Sb.keep | apply Sb.keepApp | apply Sb.cons | apply Sb.app))) (rd_convn rfl (by omega) (by omega)) rfl (by kernel_rfl) ?_
      refine xm_take 4 (m' := 31) rfl (by kernel_rfl) (by first | exact Sb.refl | exact Sb.nil | (repeat (first | exact Sb.nil | exact Sb.refl | exact Sb.app0 | apply Sb.keep | apply Sb.keepApp | apply Sb.cons | apply Sb.app))) (rd_move rfl) rfl (by kernel_rfl) ?_
      refine xm_take 5 (m' := 63) rfl (by kernel_rfl) (by first | exact Sb.refl | exact Sb.nil | (repeat (first | exact Sb.nil | exact Sb.refl | exact Sb.app0 | apply Sb.keep | apply Sb.keepApp | apply Sb.cons | apply Sb.app))) (rd_move rfl) rfl (by kernel_rfl) ?_
      refine xm_one 6 (m' := 127) rfl (by kernel_rfl) rfl (by kernel_rfl) (ef_appendS [_, _] _ l3 (news := ints .u8 out) rfl rfl hO3 rfl (hO.rs (by intro z hz; simp [hz])) (by rw [ints_len, Nat.mul_one]) (ints_one _ _) (by decide) (by omega) (by omega) fun s3 k3 l3 hO3 hk3 => ?_)
      refine ⟨(by first | exact Sb.refl | exact Sb.nil | (repeat (first | exact Sb.nil | exact Sb.refl | exact Sb.app0 | apply Sb.keep | apply Sb.keepApp | apply Sb.cons | apply Sb.app))), ?_⟩
      refine xm_take 7 (m' := 255) rfl (by kernel_rfl) (by first | exact Sb.refl | exact Sb.nil | (repeat (first | exact Sb.nil | exact Sb.refl | exact Sb.app0 | apply Sb.keep | apply Sb.keepApp | apply Sb.cons | apply Sb.app))) (rd_build rfl rfl rfl) rfl (by kernel_rfl) ?_
      refine xm_one 8 (m' := 511) rfl (by kernel_rfl) rfl (by kernel_rfl) (ef_storeB [] _ rfl rfl (by first | rfl | assumption) rfl rfl rfl ?_)
      refine ⟨(by first | exact Sb.refl | exact Sb.nil | (repeat (first | exact Sb.nil | exact Sb.refl | exact Sb.app0 | apply Sb.keep | apply Sb.keepApp | apply Sb.cons | apply Sb.app))), ?_⟩
      refine xm_take 9 (m' := 1023) rfl (by kernel_rfl) (by first | exact Sb.refl | exact Sb.nil | (repeat (first | exact Sb.nil | exact Sb.refl | exact Sb.app0 | apply Sb.keep | apply Sb.keepApp | apply Sb.cons | apply Sb.app))) (rd_assign rfl) rfl (by kernel_rfl) ?_
      refine xm_done (by kernel_rfl) ?_
      refine xq_seq ?_
      refine xc_ret ?_
    have hbl : ([ss, nt / 4294967296, nt % 4294967296, rt, pk, oc].flatMap be4 ++ xs.flatMap bkL).length = 4 + 8 + 4 + 4 + 4 + out.length := by rw [List.length_append, flat4_len, ho]; rfl
    have hb8 := beK_8 nt g2.1 g2.2
    all_goals refine xq_retB2 (.inl rfl) Try.results51 rfl rfl Kn.o0 rfl (L' := l3 ++ L) ?_ ⟨⟨⟨xs.length, 200, [ss, nt / 4294967296, nt % 4294967296, rt, pk, oc].flatMap be4 ++ xs.flatMap bkL, 0⟩, s3, k3, l3⟩, ?_, rfl, ?_, rfl⟩
    · exact (List.Sublist.append_left (by repeat (first | exact List.Sublist.refl _ | refine List.Sublist.trans ?_ (List.sublist_append_right _ _))) l3).trans (.cons _ (.cons _ (List.Sublist.refl _)))
    · unfold Pb.enc Pc.enc; dsimp only; rw [hbl]; rfl
    · unfold Pb.Ok
      dsimp only
      rw [hbl, ← ho]
      rw [hb8] at hO3
      simp only [ints_app, List.append_assoc, List.flatMap_cons, List.flatMap_nil, List.append_nil] at hO3 ⊢
      exact hO3
end Go.Proofs.Ytogilblilljpmaa.X
