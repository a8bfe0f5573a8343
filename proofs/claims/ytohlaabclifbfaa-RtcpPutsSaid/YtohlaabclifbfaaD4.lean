/-
  Who goes is told: a walk of my own.
-/
import Derived.Test.YtohlaabclifbfaaD3
namespace Go.Proofs.Ytohlaabclifbfaa.X
open Go Go.RowKit
set_option linter.unusedVariables false
set_option linter.unusedSimpArgs false
structure By' where
  so : List Int
  re : ByteArray
def By'.enc (x : By') (v : Value) : List Value := [v, .string x.re]
def Rd.lgs : Nat → Rd → List Int × Rd
  | 0, r => ([], r)
  | n + 1, r => (vl (r.take 4).1 :: (Rd.lgs n (r.take 4).2).1, (Rd.lgs n (r.take 4).2).2)
theorem Rd.lgs_len : ∀ (n : Nat) (r : Rd), (Rd.lgs n r).1.length = n
  | 0, _ => rfl
  | n + 1, r => by rw [Rd.lgs, List.length_cons, Rd.lgs_len n]
def Rd.bye (r : Rd) (n : Nat) : By' × Rd := if 0 < (Rd.lgs n r).2.l.length then (⟨(Rd.lgs n r).1, strOfNums (Rd.lgs n r).2.text.1⟩, (Rd.lgs n r).2.text.2.fill) else (⟨(Rd.lgs n r).1, ⟨#[]⟩⟩, (Rd.lgs n r).2)
def ofBy (q : Pc) : By' × Int := if toldE q ((rd0 q).bye q.ct.toNat).2 203 true = 0 then (((rd0 q).bye q.ct.toNat).1, 0) else (⟨[], ⟨#[]⟩⟩, toldE q ((rd0 q).bye q.ct.toNat).2 203 true)
/-- Who goes, as it is told. -/
def ByM (L : List Blk) (z : By' × Int) (v : Value) (L' : List Blk) : Prop :=
  ∃ s k l, v = .tuple #[.agg (z.1.enc (.slice s z.1.so.length k)).toArray, .int .i64 z.2] ∧ SlO 1 49 (.slice s z.1.so.length k) z.1.so.length (ints .u32 z.1.so) l ∧ L' = l ++ L
theorem ByM.err {L : List Blk} (e : Int) : ByM L (⟨[], ⟨#[]⟩⟩, e) (.tuple #[.agg #[.slice none 0 0, .string ⟨#[]⟩], .int .i64 e]) L := ⟨none, 0, [], rfl, SlO.nil, rfl⟩
structure LgZ where
  i : Nat
  ys : List Int
  r : Rd
  o : Obj
  s : Option Addr
  k : Nat
  l : List Blk
set_option maxHeartbeats 8000000 in
theorem xf_ofBye {W : World} {L : List Blk} (x : Pb) (hr : Rs W L x.p (ints .u8 x.q.bd)) (hg : x.q.Rg) (hc : x.q.bd.length ≤ x.c) (hn : x.q.bd.length ≤ 1000000) :
    XF Try.prog W 43 #[.agg x.enc.toArray] L (ByM L (ofBy x.q)) := by
  refine xf_enter (args := [_]) Try.func43 rfl Try.ntmps43 rfl ?_
  have hB := rd0_B hr hg hc hn
  have hct := hg.ct
  unfold By at hct
  obtain ⟨⟨ct', kd, bd, pd⟩, xp, xc, xl⟩ := x
  dsimp only at hct hB hr hc hn hg
  obtain ⟨ct, rfl⟩ : ∃ ct : Nat, ct' = ct := ⟨ct'.toNat, by omega⟩
  unfold ofBy
  dsimp only
  rw [show (ct : Int).toNat = ct from rfl]
  generalize hq : (⟨ct, kd, bd, pd⟩ : Pc) = q at *
  generalize hr0 : rd0 q = r0 at *
  subst hq
  unfold Pb.enc Pc.enc
  dsimp only
  focus
    refine xc_seq ?_
    refine xc_region ?_
    refine xo_ef rfl (ef_box rfl fun r1 => ?_)
    refine xo_ef rfl (ef_alloc fun r2 => ?_)
    refine xo_rd (rd_assign rfl) rfl ?_
    refine xo_nil ?_
    refine xq_seq ?_
    refine xc_seq ?_
    refine xc_region ?_
    refine xo_rd (rd_fieldAddr rfl) rfl ?_
    refine xo_rd (rd_load1 rfl (Cl.o1 rfl)) rfl ?_
    refine xo_rd (rd_build rfl rfl rfl) rfl ?_
    refine xo_ef rfl (ef_box rfl fun r10 => ?_)
    refine xo_rd (rd_assign rfl) rfl ?_
    refine xo_nil ?_
    refine xq_seq ?_
    refine xc_seq ?_
    refine xc_region ?_
    refine xo_ef rfl (ef_alloc fun r5 => ?_)
    refine xo_nil ?_
    refine xq_seq ?_
    refine xc_seq ?_
    refine xc_seq ?_
    refine xc_region ?_
    refine xo_rd (rd_fieldAddr rfl) rfl ?_
    refine xo_rd (rd_load1 rfl (Cl.o3 rfl)) rfl ?_
    refine xo_rd (rd_move rfl) rfl ?_
    refine xo_nil ?_
    refine xq_seq ?_
    refine xc_block ?_
  refine xc_loopI (ι := LgZ) (fun z => z.i ≤ ct ∧ z.ys.length = z.i ∧ RdB W L z.r z.o ∧ Rd.lgs ct r0 = (z.ys ++ (Rd.lgs (ct - z.i) z.r).1, (Rd.lgs (ct - z.i) z.r).2) ∧ SlO 1 49 (.slice z.s z.i z.k) z.i (ints .u32 z.ys) z.l) (fun z => ct - z.i)
    (fun z => (r5, .cells #[.slice z.s z.i z.k, .string ⟨#[]⟩] 57 (0, 0)) :: (r10, z.o) :: (r2, .cells #[.slice none 0 0, .string ⟨#[]⟩] 57 (0, 0)) :: (r1, .cells #[.int .u8 ct, .int .u8 kd, .slice xp bd.length xc, .int .u8 pd] 35 (0, 0)) :: (z.l ++ L))
    (fun z => [(1, .pointer (some ⟨r1, 0, none⟩)), (2, .pointer (some ⟨r2, 0, none⟩)), (4, .pointer (some ⟨r10, 0, none⟩)), (5, .pointer (some ⟨r5, 0, none⟩)), (12, .int .u8 ct), (13, .int .u8 z.i)]) ⟨0, [], r0, _, none, 0, []⟩ ⟨Nat.zero_le _, rfl, hB, rfl, SlO.nil⟩ rfl (by repeat (first | exact keep_nil | refine keep_cons rfl ?_)) ?_
  rintro ⟨i, ys, r, o, s, k, l⟩ ⟨hi, hyl, hB, heq, hO⟩
  dsimp only at hi hyl hB heq hO ⊢
  by_cases hin : i < ct
  · have e1 : Rd.lgs (ct - i) r = (vl (r.take 4).1 :: (Rd.lgs (ct - (i + 1)) (r.take 4).2).1, (Rd.lgs (ct - (i + 1)) (r.take 4).2).2) := by
      obtain ⟨m, hm⟩ : ∃ m, ct - i = m + 1 := ⟨ct - i - 1, by omega⟩
      rw [hm, show ct - (i + 1) = m from by omega]; rfl
    rw [e1] at heq
    focus
      refine xc_seq ?_
      refine xc_region ?_
      refine xo_rd (rd_lss rfl rfl) rfl ?_
      refine xo_nil ?_
      refine xq_seq ?_
      refine xc_seq ?_
      refine xc_dec rfl (fun h1 => ?_) (fun h1 => (by exfalso; omega))
      refine xc_skip ?_
      refine xq_seq ?_
      refine xc_seq ?_
      refine xc_block ?_
      refine xc_drawM [0, 1, 0, 4, 8, 26, 63, 127] [0, 1, 0, 4, 8, 26, 63, 127] [] (by kernel_rfl) (by kernel_rfl) (by kernel_rfl) ?_
      refine xm_take 0 (m' := 1) rfl (by kernel_rfl) (by first | exact Sb.refl | exact Sb.nil | (repeat (first | exact Sb.nil | exact Sb.refl | exact Sb.app0 | apply Sb.keep | apply Sb.keepApp | apply Sb.cons | apply Sb.app))) (rd_fieldAddr rfl) rfl (by kernel_rfl) ?_
      refine xm_take 2 (m' := 5) rfl (by kernel_rfl) (by first | exact Sb.refl | exact Sb.nil | (repeat (first | exact Sb.nil | exact Sb.refl | exact Sb.app0 | apply Sb.keep | apply Sb.keepApp | apply Sb.cons | apply Sb.app))) (rd_move rfl) rfl (by kernel_rfl) ?_
      refine xm_two 1 3 (mi := 7) (mk := 13) rfl rfl (by kernel_rfl) rfl rfl (by kernel_rfl) (by kernel_rfl) (ef_rd (rd_load1 rfl (Cl.o0 rfl)) ⟨(by first | exact Sb.refl | exact Sb.nil | (repeat (first | exact Sb.nil | exact Sb.refl | exact Sb.app0 | apply Sb.keep | apply Sb.keepApp | apply Sb.cons | apply Sb.app))), ?_⟩) (ef_call rfl (XF.mono (XF.mid [_] (xr_long _ hB (fun z hz => by simp [hz]))) ?_))
      rotate_left
      rintro v L' ⟨rfl, o2, ho2, rfl⟩
      refine xmx_mid [_] ?_
      refine ⟨(by first | exact Sb.refl | exact Sb.nil | (repeat (first | exact Sb.nil | exact Sb.refl | exact Sb.app0 | apply Sb.keep | apply Sb.keepApp | apply Sb.cons | apply Sb.app))), ?_⟩
      rotate_right
      refine xm_one 3 (m' := 15) rfl (by kernel_rfl) rfl (by kernel_rfl) (ef_call rfl (XF.mono (XF.mid [_] (xr_long _ hB (fun z hz => by simp [hz]))) ?_))
      rintro v L' ⟨rfl, o2, ho2, rfl⟩
      refine xmx_mid [_] ?_
      refine ⟨(by first | exact Sb.refl | exact Sb.nil | (repeat (first | exact Sb.nil | exact Sb.refl | exact Sb.app0 | apply Sb.keep | apply Sb.keepApp | apply Sb.cons | apply Sb.app))), ?_⟩
      refine xm_one 4 (m' := 31) rfl (by kernel_rfl) rfl (by kernel_rfl) (ef_slice1 rfl rfl rfl fun r38 => ?_)
      refine ⟨(by first | exact Sb.refl | exact Sb.nil | (repeat (first | exact Sb.nil | exact Sb.refl | exact Sb.app0 | apply Sb.keep | apply Sb.keepApp | apply Sb.cons | apply Sb.app))), ?_⟩
      refine xm_one 5 (m' := 63) rfl (by kernel_rfl) rfl (by kernel_rfl) (ef_appendS [_, _, _, _, _] L l (news := [.int .u32 (vl (r.take 4).1)]) rfl rfl hO rfl (Rs.fresh (List.Mem.head _)) rfl rfl (by decide) (by omega) (by omega) fun s' k' l' hO' hk' => ?_)
      refine ⟨(by first | exact Sb.refl | exact Sb.nil | (repeat (first | exact Sb.nil | exact Sb.refl | exact Sb.app0 | apply Sb.keep | apply Sb.keepApp | apply Sb.cons | apply Sb.app))), ?_⟩
      refine xm_take 6 (m' := 127) rfl (by kernel_rfl) (by first | exact Sb.refl | exact Sb.nil | (repeat (first | exact Sb.nil | exact Sb.refl | exact Sb.app0 | apply Sb.keep | apply Sb.keepApp | apply Sb.cons | apply Sb.app))) (rd_fieldAddr rfl) rfl (by kernel_rfl) ?_
      refine xm_one 7 (m' := 255) rfl (by kernel_rfl) rfl (by kernel_rfl) (ef_store1 [_] _ rfl rfl (by first | rfl | assumption) rfl rfl rfl ?_)
      refine ⟨(by first | exact Sb.refl | exact Sb.nil | (repeat (first | exact Sb.nil | exact Sb.refl | exact Sb.app0 | apply Sb.keep | apply Sb.keepApp | apply Sb.cons | apply Sb.app))), ?_⟩
      refine xm_done (by kernel_rfl) ?_
      refine xq_block ?_
      refine xq_seq ?_
      refine xc_region ?_
      refine xo_rd (rd_addn rfl rfl (by omega) (by omega)) rfl ?_
      refine xo_rd (rd_move rfl) rfl ?_
      refine xo_nil ?_
      rotate_left
      refine xm_two 1 4 (mi := 15) (mk := 29) rfl rfl (by kernel_rfl) rfl rfl (by kernel_rfl) (by kernel_rfl) (ef_rd (rd_load1 rfl (Cl.o0 rfl)) ⟨(by first | exact Sb.refl | exact Sb.nil | (repeat (first | exact Sb.nil | exact Sb.refl | exact Sb.app0 | apply Sb.keep | apply Sb.keepApp | apply Sb.cons | apply Sb.app))), ?_⟩) (ef_slice1 rfl rfl rfl fun r38 => ⟨(by first | exact Sb.refl | exact Sb.nil | (repeat (first | exact Sb.nil | exact Sb.refl | exact Sb.app0 | apply Sb.keep | apply Sb.keepApp | apply Sb.cons | apply Sb.app))), ?_⟩)
      refine xm_one 4 (m' := 31) rfl (by kernel_rfl) rfl (by kernel_rfl) (ef_slice1 rfl rfl rfl fun r38 => ?_)
      refine ⟨(by first | exact Sb.refl | exact Sb.nil | (repeat (first | exact Sb.nil | exact Sb.refl | exact Sb.app0 | apply Sb.keep | apply Sb.keepApp | apply Sb.cons | apply Sb.app))), ?_⟩
      refine xm_one 5 (m' := 63) rfl (by kernel_rfl) rfl (by kernel_rfl) (ef_appendS [_, _, _, _, _] L l (news := [.int .u32 (vl (r.take 4).1)]) rfl rfl hO rfl (Rs.fresh (List.Mem.head _)) rfl rfl (by decide) (by omega) (by omega) fun s' k' l' hO' hk' => ?_)
      refine ⟨(by first | exact Sb.refl | exact Sb.nil | (repeat (first | exact Sb.nil | exact Sb.refl | exact Sb.app0 | apply Sb.keep | apply Sb.keepApp | apply Sb.cons | apply Sb.app))), ?_⟩
      refine xm_take 6 (m' := 127) rfl (by kernel_rfl) (by first | exact Sb.refl | exact Sb.nil | (repeat (first | exact Sb.nil | exact Sb.refl | exact Sb.app0 | apply Sb.keep | apply Sb.keepApp | apply Sb.cons | apply Sb.app))) (rd_fieldAddr rfl) rfl (by kernel_rfl) ?_
      refine xm_one 7 (m' := 255) rfl (by kernel_rfl) rfl (by kernel_rfl) (ef_store1 [_] _ rfl rfl (by first | rfl | assumption) rfl rfl rfl ?_)
      refine ⟨(by first | exact Sb.refl | exact Sb.nil | (repeat (first | exact Sb.nil | exact Sb.refl | exact Sb.app0 | apply Sb.keep | apply Sb.keepApp | apply Sb.cons | apply Sb.app))), ?_⟩
      refine xm_done (by kernel_rfl) ?_
      refine xq_block ?_
      refine xq_seq ?_
      refine xc_region ?_
      refine xo_rd (rd_addn rfl rfl (by omega) (by omega)) rfl ?_
      refine xo_rd (rd_move rfl) rfl ?_
      refine xo_nil ?_
      rotate_left
      refine xm_one 1 (m' := 31) rfl (by kernel_rfl) rfl (by kernel_rfl) (ef_rd (rd_load1 rfl (Cl.o1 rfl)) ?_)
      refine ⟨(by first | exact Sb.refl | exact Sb.nil | (repeat (first | exact Sb.nil | exact Sb.refl | exact Sb.app0 | apply Sb.keep | apply Sb.keepApp | apply Sb.cons | apply Sb.app))), ?_⟩
      refine xm_one 5 (m' := 63) rfl (by kernel_rfl) rfl (by kernel_rfl) (ef_appendS [_, _, _, _, _] L l (news := [.int .u32 (vl (r.take 4).1)]) rfl rfl hO rfl (Rs.fresh (List.Mem.head _)) rfl rfl (by decide) (by omega) (by omega) fun s' k' l' hO' hk' => ?_)
      refine ⟨(by first | exact Sb.refl | exact Sb.nil | (repeat (first | exact Sb.nil | exact Sb.refl | exact Sb.app0 | apply Sb.keep | apply Sb.keepApp | apply Sb.cons | apply Sb.app))), ?_⟩
      refine xm_take 6 (m' := 127) rfl (by kernel_rfl) (by first | exact Sb.refl | exact Sb.nil | (repeat (first | exact Sb.nil | exact Sb.refl | exact Sb.app0 | apply Sb.keep | apply Sb.keepApp | apply Sb.cons | apply Sb.app))) (rd_fieldAddr rfl) rfl (by kernel_rfl) ?_
      refine xm_one 7 (m' := 255) rfl (by kernel_rfl) rfl (by kernel_rfl) (ef_store1 [_] _ rfl rfl (by first | rfl | assumption) rfl rfl rfl ?_)
      refine ⟨(by first | exact Sb.refl | exact Sb.nil | (repeat (first | exact Sb.nil | exact Sb.refl | exact Sb.app0 | apply Sb.keep | apply Sb.keepApp | apply Sb.cons | apply Sb.app))), ?_⟩
      refine xm_done (by kernel_rfl) ?_
      refine xq_block ?_
      refine xq_seq ?_
      refine xc_region ?_
      refine xo_rd (rd_addn rfl rfl (by omega) (by omega)) rfl ?_
      refine xo_rd (rd_move rfl) rfl ?_
      refine xo_nil ?_
      rotate_left
    all_goals refine xq_tail (xq_roundI (⟨i + 1, ys ++ [vl (r.take 4).1], (r.take 4).2, o2, s', k', l'⟩ : LgZ) ⟨by dsimp only; omega, by simp [hyl], ho2, ?_, ?_⟩ (by dsimp only; omega) rfl (by repeat (first | exact keep_nil | refine keep_cons rfl ?_)))
    all_goals first | (rw [heq]; simp only [List.append_assoc, List.singleton_append]; done) | (dsimp only; rw [ints_app]; exact hO')
  · obtain rfl : i = ct := by omega
    rw [Nat.sub_self, show (Rd.lgs 0 r).1 = [] from rfl, show (Rd.lgs 0 r).2 = r from rfl, List.append_nil] at heq
    unfold Rd.bye
    rw [heq]
    dsimp only
    have hB2 := hB
    obtain ⟨p4, c4, rfl, hc4, hr4, hok4⟩ := hB
    have hld : ∀ a R, Cl W (a :: (r10, .cells (rdC p4 c4 r).toArray 116 (0, 0)) :: R) r10 (0 + 0) (.slice p4 r.l.length c4) := fun a R => Cl.o1 rfl
    have htold : ∀ (z : Rd) (o : Obj) (e : Int) (he : toldE ⟨i, kd, bd, pd⟩ z 203 true = e) (hB : RdB W L z o), ∀ R, XF Try.prog W 65 #[.pointer (some ⟨r10, 0, none⟩), .agg (Pb.enc ⟨⟨i, kd, bd, pd⟩, xp, xc, xl⟩).toArray, .int .u8 203, .bool true] ((r10, o) :: R) (fun v L' => v = .int .i64 e ∧ L' = (r10, o) :: R) := fun z o e he hB R => by
      have := xr_told (L := R) r10 hB ⟨⟨i, kd, bd, pd⟩, xp, xc, xl⟩ 203 true
      rwa [he] at this
    by_cases hl0 : 0 < r.l.length
    · rw [if_pos hl0]
      dsimp only
      generalize he : toldE ⟨i, kd, bd, pd⟩ r.text.2.fill 203 true = e at *
      by_cases h0 : e = 0
      · subst h0
        rw [if_pos rfl]
        focus
          refine xc_seq ?_
          refine xc_region ?_
          refine xo_rd (rd_lss rfl rfl) rfl ?_
          refine xo_nil ?_
          refine xq_seq ?_
          refine xc_seq ?_
          refine xc_dec rfl (fun hq1 => (by exfalso; omega)) (fun hq1 => ?_)
          refine xc_exit ?_
          refine xq_then_exit ?_
          refine xq_then_exit ?_
          refine xq_block_hit ?_
          refine xq_seq ?_
          refine xc_seq ?_
          refine xc_seq ?_
          refine xc_region ?_
          refine xo_rd (rd_move rfl) rfl ?_
          refine xo_rd (rd_nilCheck rfl) rfl ?_
          refine xo_rd (rd_fieldAddr rfl) rfl ?_
          refine xo_rd (rd_load1 rfl (hld _ _)) rfl ?_
          refine xo_rd (rd_len rfl) rfl ?_
          refine xo_rd (rd_gtr rfl rfl) rfl ?_
          refine xo_nil ?_
          refine xq_seq ?_
          refine xc_dec rfl (fun hq2 => ?_) (fun hq2 => (by exfalso; omega))
          refine xc_seq ?_
          refine xc_region ?_
          refine xo_rd (rd_move rfl) rfl ?_
          refine xo_ef rfl (ef_call rfl (XF.mono (XF.mid [_] (xr_text _ hB2 (fun z hz => by simp [hz]))) ?_))
          rintro v L' ⟨rfl, o5, ho5, rfl⟩
          refine xo_mid [_] ?_
          refine xo_rd (rd_fieldAddr rfl) rfl ?_
          refine xo_ef rfl (ef_store1 [] _ rfl rfl (by first | rfl | assumption) rfl rfl rfl ?_)
          refine xo_nil ?_
          refine xq_seq ?_
          refine xc_region ?_
          refine xo_rd (rd_move rfl) rfl ?_
          refine xo_ef rfl (ef_call rfl (XF.mono (XF.mid [_] (xr_fill _ ho5 (fun z hz => by simp [hz]))) ?_))
          rintro v L' ⟨rfl, o6, ho6, rfl⟩
          refine xo_mid [_] ?_
          refine xo_nil ?_
          refine xq_seq ?_
          refine xc_seq ?_
          refine xc_seq ?_
          refine xc_region ?_
          refine xo_rd (rd_move rfl) rfl ?_
          refine xo_rd (rd_loadB rfl Kn.o3 (by rfl)) rfl ?_
          refine xo_ef rfl (ef_call rfl (XF.mono (XF.mid [_] (htold _ _ _ he ho6 _)) ?_))
          rintro v L' ⟨rfl, rfl⟩
          refine xo_mid [_] ?_
          refine xo_rd (rd_assign rfl) rfl ?_
          refine xo_nil ?_
          refine xq_seq ?_
          refine xc_seq ?_
          refine xc_region ?_
          refine xo_rd (rd_move rfl) rfl ?_
          refine xo_rd (rd_neq rfl rfl) rfl ?_
          refine xo_nil ?_
          refine xq_seq ?_
          refine xc_condf rfl ?_
          refine xc_skip ?_
          refine xq_seq ?_
          refine xc_seq ?_
          refine xc_region ?_
          refine xo_rd (rd_loadB rfl Kn.o0 (by rfl)) rfl ?_
          refine xo_ef rfl (ef_storeB [_, _] _ rfl rfl (by first | rfl | assumption) rfl rfl rfl ?_)
          refine xo_rd (rd_assign rfl) rfl ?_
          refine xo_nil ?_
          refine xq_seq ?_
          refine xc_ret ?_
        exact xq_sub (L' := (r2, .cells #[.slice s i k, .string (strOfNums r.text.1)] 57 (0, 0)) :: (l ++ L)) (.cons _ (.cons _ (.cons_cons _ (.cons _ (List.Sublist.refl _))))) (xq_retB2 (.inl rfl) Try.results43 rfl rfl Kn.o0 rfl (List.sublist_cons_self _ _) ⟨s, k, l, by rw [hyl]; rfl, by rw [hyl]; exact hO, rfl⟩)
      · rw [if_neg h0]
        focus
          refine xc_seq ?_
          refine xc_region ?_
          refine xo_rd (rd_lss rfl rfl) rfl ?_
          refine xo_nil ?_
          refine xq_seq ?_
          refine xc_seq ?_
          refine xc_dec rfl (fun hq1 => (by exfalso; omega)) (fun hq1 => ?_)
          refine xc_exit ?_
          refine xq_then_exit ?_
          refine xq_then_exit ?_
          refine xq_block_hit ?_
          refine xq_seq ?_
          refine xc_seq ?_
          refine xc_seq ?_
          refine xc_region ?_
          refine xo_rd (rd_move rfl) rfl ?_
          refine xo_rd (rd_nilCheck rfl) rfl ?_
          refine xo_rd (rd_fieldAddr rfl) rfl ?_
          refine xo_rd (rd_load1 rfl (hld _ _)) rfl ?_
          refine xo_rd (rd_len rfl) rfl ?_
          refine xo_rd (rd_gtr rfl rfl) rfl ?_
          refine xo_nil ?_
          refine xq_seq ?_
          refine xc_dec rfl (fun hq2 => ?_) (fun hq2 => (by exfalso; omega))
          refine xc_seq ?_
          refine xc_region ?_
          refine xo_rd (rd_move rfl) rfl ?_
          refine xo_ef rfl (ef_call rfl (XF.mono (XF.mid [_] (xr_text _ hB2 (fun z hz => by simp [hz]))) ?_))
          rintro v L' ⟨rfl, o5, ho5, rfl⟩
          refine xo_mid [_] ?_
          refine xo_rd (rd_fieldAddr rfl) rfl ?_
          refine xo_ef rfl (ef_store1 [] _ rfl rfl (by first | rfl | assumption) rfl rfl rfl ?_)
          refine xo_nil ?_
          refine xq_seq ?_
          refine xc_region ?_
          refine xo_rd (rd_move rfl) rfl ?_
          refine xo_ef rfl (ef_call rfl (XF.mono (XF.mid [_] (xr_fill _ ho5 (fun z hz => by simp [hz]))) ?_))
          rintro v L' ⟨rfl, o6, ho6, rfl⟩
          refine xo_mid [_] ?_
          refine xo_nil ?_
          refine xq_seq ?_
          refine xc_seq ?_
          refine xc_seq ?_
          refine xc_region ?_
          refine xo_rd (rd_move rfl) rfl ?_
          refine xo_rd (rd_loadB rfl Kn.o3 (by rfl)) rfl ?_
          refine xo_ef rfl (ef_call rfl (XF.mono (XF.mid [_] (htold _ _ _ he ho6 _)) ?_))
          rintro v L' ⟨rfl, rfl⟩
          refine xo_mid [_] ?_
          refine xo_rd (rd_assign rfl) rfl ?_
          refine xo_nil ?_
          refine xq_seq ?_
          refine xc_seq ?_
          refine xc_region ?_
          refine xo_rd (rd_move rfl) rfl ?_
          refine xo_rd (rd_neq rfl rfl) rfl ?_
          refine xo_nil ?_
          refine xq_seq ?_
          refine xc_ndec rfl (fun hq3 => ?_) (fun hq3 => (by exfalso; omega))
          refine xc_seq ?_
          refine xc_region ?_
          refine xo_rd (rd_build rfl rfl rfl) rfl ?_
          refine xo_rd (rd_move rfl) rfl ?_
          refine xo_ef rfl (ef_storeB [_, _] _ rfl rfl (by first | rfl | assumption) rfl rfl rfl ?_)
          refine xo_rd (rd_assign rfl) rfl ?_
          refine xo_nil ?_
          refine xq_seq ?_
          refine xc_ret ?_
          refine xq_then_ret ?_
        exact xq_retB2 (.inl rfl) Try.results43 rfl rfl Kn.o2 rfl ((List.sublist_append_right l L).trans (.cons _ (.cons _ (.cons _ (.cons _ (List.Sublist.refl _)))))) (ByM.err e)
    · rw [if_neg hl0]
      dsimp only
      generalize he : toldE ⟨i, kd, bd, pd⟩ r 203 true = e at *
      by_cases h0 : e = 0
      · subst h0
        rw [if_pos rfl]
        focus
          refine xc_seq ?_
          refine xc_region ?_
          refine xo_rd (rd_lss rfl rfl) rfl ?_
          refine xo_nil ?_
          refine xq_seq ?_
          refine xc_seq ?_
          refine xc_dec rfl (fun hq1 => (by exfalso; omega)) (fun hq1 => ?_)
          refine xc_exit ?_
          refine xq_then_exit ?_
          refine xq_then_exit ?_
          refine xq_block_hit ?_
          refine xq_seq ?_
          refine xc_seq ?_
          refine xc_seq ?_
          refine xc_region ?_
          refine xo_rd (rd_move rfl) rfl ?_
          refine xo_rd (rd_nilCheck rfl) rfl ?_
          refine xo_rd (rd_fieldAddr rfl) rfl ?_
          refine xo_rd (rd_load1 rfl (hld _ _)) rfl ?_
          refine xo_rd (rd_len rfl) rfl ?_
          refine xo_rd (rd_gtr rfl rfl) rfl ?_
          refine xo_nil ?_
          refine xq_seq ?_
          refine xc_dec rfl (fun hq2 => (by exfalso; omega)) (fun hq2 => ?_)
          refine xc_skip ?_
          refine xq_seq ?_
          refine xc_seq ?_
          refine xc_seq ?_
          refine xc_region ?_
          refine xo_rd (rd_move rfl) rfl ?_
          refine xo_rd (rd_loadB rfl Kn.o3 (by rfl)) rfl ?_
          refine xo_ef rfl (ef_call rfl (XF.mono (XF.mid [_] (htold _ _ _ he hB2 _)) ?_))
          rintro v L' ⟨rfl, rfl⟩
          refine xo_mid [_] ?_
          refine xo_rd (rd_assign rfl) rfl ?_
          refine xo_nil ?_
          refine xq_seq ?_
          refine xc_seq ?_
          refine xc_region ?_
          refine xo_rd (rd_move rfl) rfl ?_
          refine xo_rd (rd_neq rfl rfl) rfl ?_
          refine xo_nil ?_
          refine xq_seq ?_
          refine xc_condf rfl ?_
          refine xc_skip ?_
          refine xq_seq ?_
          refine xc_seq ?_
          refine xc_region ?_
          refine xo_rd (rd_loadB rfl Kn.o0 (by rfl)) rfl ?_
          refine xo_ef rfl (ef_storeB [_, _] _ rfl rfl (by first | rfl | assumption) rfl rfl rfl ?_)
          refine xo_rd (rd_assign rfl) rfl ?_
          refine xo_nil ?_
          refine xq_seq ?_
          refine xc_ret ?_
        exact xq_sub (L' := (r2, .cells #[.slice s i k, .string ⟨#[]⟩] 57 (0, 0)) :: (l ++ L)) (.cons _ (.cons _ (.cons_cons _ (.cons _ (List.Sublist.refl _))))) (xq_retB2 (.inl rfl) Try.results43 rfl rfl Kn.o0 rfl (List.sublist_cons_self _ _) ⟨s, k, l, by rw [hyl]; rfl, by rw [hyl]; exact hO, rfl⟩)
      · rw [if_neg h0]
        focus
          refine xc_seq ?_
          refine xc_region ?_
          refine xo_rd (rd_lss rfl rfl) rfl ?_
          refine xo_nil ?_
          refine xq_seq ?_
          refine xc_seq ?_
          refine xc_dec rfl (fun hq1 => (by exfalso; omega)) (fun hq1 => ?_)
          refine xc_exit ?_
          refine xq_then_exit ?_
          refine xq_then_exit ?_
          refine xq_block_hit ?_
          refine xq_seq ?_
          refine xc_seq ?_
          refine xc_seq ?_
          refine xc_region ?_
          refine xo_rd (rd_move rfl) rfl ?_
          refine xo_rd (rd_nilCheck rfl) rfl ?_
          refine xo_rd (rd_fieldAddr rfl) rfl ?_
          refine xo_rd (rd_load1 rfl (hld _ _)) rfl ?_
          refine xo_rd (rd_len rfl) rfl ?_
          refine xo_rd (rd_gtr rfl rfl) rfl ?_
          refine xo_nil ?_
          refine xq_seq ?_
          refine xc_dec rfl (fun hq2 => (by exfalso; omega)) (fun hq2 => ?_)
          refine xc_skip ?_
          refine xq_seq ?_
          refine xc_seq ?_
          refine xc_seq ?_
          refine xc_region ?_
          refine xo_rd (rd_move rfl) rfl ?_
          refine xo_rd (rd_loadB rfl Kn.o3 (by rfl)) rfl ?_
          refine xo_ef rfl (ef_call rfl (XF.mono (XF.mid [_] (htold _ _ _ he hB2 _)) ?_))
          rintro v L' ⟨rfl, rfl⟩
          refine xo_mid [_] ?_
          refine xo_rd (rd_assign rfl) rfl ?_
          refine xo_nil ?_
          refine xq_seq ?_
          refine xc_seq ?_
          refine xc_region ?_
          refine xo_rd (rd_move rfl) rfl ?_
          refine xo_rd (rd_neq rfl rfl) rfl ?_
          refine xo_nil ?_
          refine xq_seq ?_
          refine xc_ndec rfl (fun hq3 => ?_) (fun hq3 => (by exfalso; omega))
          refine xc_seq ?_
          refine xc_region ?_
          refine xo_rd (rd_build rfl rfl rfl) rfl ?_
          refine xo_rd (rd_move rfl) rfl ?_
          refine xo_ef rfl (ef_storeB [_, _] _ rfl rfl (by first | rfl | assumption) rfl rfl rfl ?_)
          refine xo_rd (rd_assign rfl) rfl ?_
          refine xo_nil ?_
          refine xq_seq ?_
          refine xc_ret ?_
          refine xq_then_ret ?_
        exact xq_retB2 (.inl rfl) Try.results43 rfl rfl Kn.o2 rfl ((List.sublist_append_right l L).trans (.cons _ (.cons _ (.cons _ (.cons _ (List.Sublist.refl _)))))) (ByM.err e)
end Go.Proofs.Ytohlaabclifbfaa.X
