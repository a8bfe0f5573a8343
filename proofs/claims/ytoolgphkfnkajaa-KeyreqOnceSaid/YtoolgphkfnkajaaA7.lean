/-
  Chapter 23: a requester in memory: new, may, ask, last, sent: walks of my own.
-/
import Derived.Test.YtoolgphkfnkajaaA6
namespace Go.Proofs.Ytoolgphkfnkajaa.X
open Go Go.RowKit
set_option linter.unusedVariables false
set_option linter.unusedSimpArgs false
theorem MpIs.cong {k : IntKind} {o : Obj} {f g : Int → Option Value} {s t : Nat} (h : MpIs k o f s) (hf : ∀ z, f z = g z) (hs : s = t) : MpIs k o g t := by
  obtain rfl : f = g := funext hf
  subst hs
  exact h
def big : Int := 1000000000000000
/-- What holds of a requester. -/
structure RqOk (w : Int) (mo : Obj) (l : List Sr) : Prop where
  mp : MpIs .u32 mo (srV l) l.length
  so : (l.map Sr.id).Pairwise (· < ·)
  sm : l.length ≤ 12
  id : ∀ s, s ∈ l → 0 ≤ s.id ∧ s.id ≤ 4294967295
  la : ∀ s, s ∈ l → 0 ≤ s.last ∧ s.last ≤ 18446744073709551615
  se : ∀ s, s ∈ l → 0 ≤ s.sent ∧ s.sent ≤ big
  wt : ∀ s, s ∈ l → s.wt = 0 ∨ s.wt = 1
  w : 1 ≤ w ∧ w ≤ 18446744073709551615
def rqB (w : Int) (r mb : Nat) (mo : Obj) (L : List Blk) : List Blk := (r, .cells #[.int .u64 w, .map (some mb)] 48 (0, 0)) :: (mb, mo) :: L
theorem rqB_front (w : Int) (r mb : Nat) (mo : Obj) (A L : List Blk) : (A ++ rqB w r mb mo L).Perm (rqB w r mb mo (A ++ L)) := by
  unfold rqB
  exact (List.perm_middle).trans ((List.perm_middle).cons _)
theorem rqB_sub (w : Int) (r mb : Nat) (mo : Obj) (A L : List Blk) : (rqB w r mb mo L).Sublist (rqB w r mb mo (A ++ L)) := ((List.sublist_append_right A L).cons_cons _).cons_cons _
theorem RqOk.get {w : Int} {mo : Obj} {l : List Sr} (h : RqOk w mo l) (id : Int) (hid : 0 ≤ id ∧ id ≤ 4294967295) : (0 ≤ (getS l id).last ∧ (getS l id).last ≤ 18446744073709551615) ∧ (0 ≤ (getS l id).sent ∧ (getS l id).sent ≤ big) ∧ ((getS l id).wt = 0 ∨ (getS l id).wt = 1) := by
  unfold getS
  cases hs : srF l id with
  | none => exact ⟨by show (0 : Int) ≤ 0 ∧ (0 : Int) ≤ 18446744073709551615; decide, by show (0 : Int) ≤ 0 ∧ (0 : Int) ≤ big; decide, .inl rfl⟩
  | some s =>
    have hm : s ∈ l := by unfold srF at hs; exact List.mem_of_find?_eq_some hs
    exact ⟨h.la s hm, h.se s hm, h.wt s hm⟩
theorem srV_get (l : List Sr) (id : Int) : (srV l id).getD (Value.agg (sEnc 0 0 0).toArray) = Value.agg (sEnc (getS l id).last (getS l id).sent (getS l id).wt).toArray := by
  unfold srV getS
  cases srF l id <;> rfl
/-- Something is put in its place. -/
theorem RqOk.put {w : Int} {mo mo' : Obj} {l : List Sr} {s : Sr} (h : RqOk w mo l) (hm : MpIs .u32 mo' (mupd (srV l) s.id (some s.v)) (if (srV l s.id).isSome then l.length else l.length + 1)) (h12 : (putS s l).length ≤ 12)
    (hi : 0 ≤ s.id ∧ s.id ≤ 4294967295) (hla : 0 ≤ s.last ∧ s.last ≤ 18446744073709551615) (hse : 0 ≤ s.sent ∧ s.sent ≤ big) (hwt : s.wt = 0 ∨ s.wt = 1) : RqOk w mo' (putS s l) := by
  refine ⟨hm.cong (fun z => ?_) ?_, put_sorted h.so, h12, ?_, ?_, ?_, ?_, h.w⟩
  · unfold mupd srV
    rw [srF_put s l z h.so]
    split <;> rfl
  · rw [put_len h.so]
    unfold srV
    rw [Option.isSome_map]
  all_goals
    intro y hy
    rcases put_mem hy with rfl | hy
  · exact hi
  · exact h.id y hy
  · exact hla
  · exact h.la y hy
  · exact hse
  · exact h.se y hy
  · exact hwt
  · exact h.wt y hy
theorem xf_may {W : World} {L : List Blk} (r : Nat) (s : Sr) (now w : Int) (hw : Cl W L r 0 (.int .u64 w)) (hs : 0 ≤ s.sent) (hla : 0 ≤ s.last ∧ s.last ≤ 18446744073709551615) (hn : 0 ≤ now ∧ now ≤ 18446744073709551615) (b : Bool) (hb : mayB w s now = b) :
    XF Try.prog W 20 #[.pointer (some ⟨r, 0, none⟩), .agg (sEnc s.last s.sent s.wt).toArray, .int .u64 now] L (fun v L' => v = .bool b ∧ L' = L) := by
  subst hb
  unfold mayB
  refine xf_enter (args := [_, _, _]) Try.func20 rfl Try.ntmps20 rfl ?_
  focus
    refine xc_seq ?_
    refine xc_region ?_
    refine xo_ef rfl (ef_box rfl fun r4 => ?_)
    refine xo_rd (rd_assign rfl) rfl ?_
    refine xo_nil ?_
    refine xq_seq ?_
    refine xc_seq ?_
    refine xc_drawM [0, 1, 2, 4, 8, 8, 40, 88, 136, 256, 256, 1280, 2816, 256, 8448, 16640, 33024, 69888, 131336, 262152, 1048575] [0, 1, 2, 4, 8, 8, 40, 88, 136, 256, 256, 1280, 2816, 256, 8448, 16640, 33024, 69888, 131336, 262152, 1048575] ((r4, Obj.cells (Value.agg (sEnc s.last s.sent s.wt).toArray).cells 51 (0, 0)) :: L) (by kernel_rfl) (by kernel_rfl) (by kernel_rfl) ?_
    refine xm_take 0 (m' := 1) rfl (by kernel_rfl) Sb.a (rd_fieldAddr rfl) rfl (by kernel_rfl) ?_
    refine xm_take 1 (m' := 3) rfl (by kernel_rfl) Sb.a (rd_load1 rfl (Cl.o0 rfl)) rfl (by kernel_rfl) ?_
    refine xm_take 2 (m' := 7) rfl (by kernel_rfl) Sb.a (rd_eql rfl rfl) rfl (by kernel_rfl) ?_
    refine xm_take 3 (m' := 15) rfl (by kernel_rfl) Sb.a (rd_move rfl) rfl (by kernel_rfl) ?_
    refine xm_dec 10 rfl (fun hz1 => ?_) (fun hz1 => ?_)
    refine xm_gskip 4 (m' := 31) rfl (by kernel_rfl) Sb.a rfl rfl rfl rfl (by kernel_rfl) ?_
    refine xm_gskip 5 (m' := 63) rfl (by kernel_rfl) Sb.a rfl rfl rfl rfl (by kernel_rfl) ?_
    refine xm_gskip 6 (m' := 127) rfl (by kernel_rfl) Sb.a rfl rfl rfl rfl (by kernel_rfl) ?_
    refine xm_gskip 7 (m' := 255) rfl (by kernel_rfl) Sb.a rfl rfl rfl rfl (by kernel_rfl) ?_
    refine xm_gskip 8 (m' := 511) rfl (by kernel_rfl) Sb.a rfl rfl rfl rfl (by kernel_rfl) ?_
    refine xm_gskipU 9 (m' := 1023) rfl (by kernel_rfl) Sb.a rfl rfl rfl (by kernel_rfl) ?_
    refine xm_gskipU 10 (m' := 2047) rfl (by kernel_rfl) Sb.a rfl rfl rfl (by kernel_rfl) ?_
    refine xm_gskipU 11 (m' := 4095) rfl (by kernel_rfl) Sb.a rfl rfl rfl (by kernel_rfl) ?_
    refine xm_gskipU 12 (m' := 8191) rfl (by kernel_rfl) Sb.a rfl rfl rfl (by kernel_rfl) ?_
    refine xm_gskipU 13 (m' := 16383) rfl (by kernel_rfl) Sb.a rfl rfl rfl (by kernel_rfl) ?_
    refine xm_gskipU 14 (m' := 32767) rfl (by kernel_rfl) Sb.a rfl rfl rfl (by kernel_rfl) ?_
    refine xm_gskipU 15 (m' := 65535) rfl (by kernel_rfl) Sb.a rfl rfl rfl (by kernel_rfl) ?_
    refine xm_gskipU 16 (m' := 131071) rfl (by kernel_rfl) Sb.a rfl rfl rfl (by kernel_rfl) ?_
    refine xm_gskipU 17 (m' := 262143) rfl (by kernel_rfl) Sb.a rfl rfl rfl (by kernel_rfl) ?_
    refine xm_gskip 18 (m' := 524287) rfl (by kernel_rfl) Sb.a rfl rfl rfl rfl (by kernel_rfl) ?_
    refine xm_take 19 (m' := 1048575) rfl (by kernel_rfl) Sb.a (rd_pickt rfl rfl) rfl (by kernel_rfl) ?_
    refine xm_take 20 (m' := 2097151) rfl (by kernel_rfl) Sb.a (rd_assign rfl) rfl (by kernel_rfl) ?_
    refine xm_done (by kernel_rfl) ?_
    refine xq_seq ?_
    refine xc_ret ?_
    rotate_left
    refine xm_gtake 4 (m' := 31) rfl (by kernel_rfl) Sb.a rfl rfl (rd_move rfl) rfl (by kernel_rfl) ?_
    refine xm_gtake 5 (m' := 63) rfl (by kernel_rfl) Sb.a rfl rfl (rd_fieldAddr rfl) rfl (by kernel_rfl) ?_
    refine xm_gtake 6 (m' := 127) rfl (by kernel_rfl) Sb.a rfl rfl (rd_load1 rfl (Cl.o0 rfl)) rfl (by kernel_rfl) ?_
    refine xm_gtake 7 (m' := 255) rfl (by kernel_rfl) Sb.a rfl rfl (rd_geq rfl rfl) rfl (by kernel_rfl) ?_
    refine xm_gtake 8 (m' := 511) rfl (by kernel_rfl) Sb.a rfl rfl (rd_move rfl) rfl (by kernel_rfl) ?_
    refine xm_dec 15 rfl (fun hz2 => ?_) (fun hz2 => ?_)
    refine xm_gtake 9 (m' := 1023) rfl (by kernel_rfl) Sb.a rfl rfl (rd_move rfl) rfl (by kernel_rfl) ?_
    refine xm_gtake 10 (m' := 2047) rfl (by kernel_rfl) Sb.a rfl rfl (rd_fieldAddr rfl) rfl (by kernel_rfl) ?_
    refine xm_gtake 11 (m' := 4095) rfl (by kernel_rfl) Sb.a rfl rfl (rd_load1 rfl (Cl.o0 rfl)) rfl (by kernel_rfl) ?_
    refine xm_gtake 12 (m' := 8191) rfl (by kernel_rfl) Sb.a rfl rfl (rd_subn rfl rfl (by omega) (by omega)) rfl (by kernel_rfl) ?_
    refine xm_gtake 13 (m' := 16383) rfl (by kernel_rfl) Sb.a rfl rfl (rd_move rfl) rfl (by kernel_rfl) ?_
    refine xm_gtake 14 (m' := 32767) rfl (by kernel_rfl) Sb.a rfl rfl (rd_nilCheck rfl) rfl (by kernel_rfl) ?_
    refine xm_gtake 15 (m' := 65535) rfl (by kernel_rfl) Sb.a rfl rfl (rd_fieldAddr rfl) rfl (by kernel_rfl) ?_
    refine xm_gtake 16 (m' := 131071) rfl (by kernel_rfl) Sb.a rfl rfl (rd_load1 rfl (hw.mono (by intro z hz; simp [hz]))) rfl (by kernel_rfl) ?_
    refine xm_gtake 17 (m' := 262143) rfl (by kernel_rfl) Sb.a rfl rfl (rd_geq rfl rfl) rfl (by kernel_rfl) ?_
    refine xm_gtake 18 (m' := 524287) rfl (by kernel_rfl) Sb.a rfl rfl (rd_pickt rfl rfl) rfl (by kernel_rfl) ?_
    refine xm_take 19 (m' := 1048575) rfl (by kernel_rfl) Sb.a (rd_pickf rfl rfl) rfl (by kernel_rfl) ?_
    refine xm_take 20 (m' := 2097151) rfl (by kernel_rfl) Sb.a (rd_assign rfl) rfl (by kernel_rfl) ?_
    refine xm_done (by kernel_rfl) ?_
    refine xq_seq ?_
    refine xc_ret ?_
    rotate_left
    refine xm_gskip 9 (m' := 1023) rfl (by kernel_rfl) Sb.a rfl rfl rfl rfl (by kernel_rfl) ?_
    refine xm_gskip 10 (m' := 2047) rfl (by kernel_rfl) Sb.a rfl rfl rfl rfl (by kernel_rfl) ?_
    refine xm_gskip 11 (m' := 4095) rfl (by kernel_rfl) Sb.a rfl rfl rfl rfl (by kernel_rfl) ?_
    refine xm_gskip 12 (m' := 8191) rfl (by kernel_rfl) Sb.a rfl rfl rfl rfl (by kernel_rfl) ?_
    refine xm_gskip 13 (m' := 16383) rfl (by kernel_rfl) Sb.a rfl rfl rfl rfl (by kernel_rfl) ?_
    refine xm_gskip 14 (m' := 32767) rfl (by kernel_rfl) Sb.a rfl rfl rfl rfl (by kernel_rfl) ?_
    refine xm_gskip 15 (m' := 65535) rfl (by kernel_rfl) Sb.a rfl rfl rfl rfl (by kernel_rfl) ?_
    refine xm_gskip 16 (m' := 131071) rfl (by kernel_rfl) Sb.a rfl rfl rfl rfl (by kernel_rfl) ?_
    refine xm_gskip 17 (m' := 262143) rfl (by kernel_rfl) Sb.a rfl rfl rfl rfl (by kernel_rfl) ?_
    refine xm_gtake 18 (m' := 524287) rfl (by kernel_rfl) Sb.a rfl rfl (rd_pickf rfl rfl) rfl (by kernel_rfl) ?_
    refine xm_take 19 (m' := 1048575) rfl (by kernel_rfl) Sb.a (rd_pickf rfl rfl) rfl (by kernel_rfl) ?_
    refine xm_take 20 (m' := 2097151) rfl (by kernel_rfl) Sb.a (rd_assign rfl) rfl (by kernel_rfl) ?_
    refine xm_done (by kernel_rfl) ?_
    refine xq_seq ?_
    refine xc_ret ?_
    rotate_left
  all_goals exact xq_sub (List.sublist_cons_self _ _) (xq_ret1 (.inl rfl) Try.results20 rfl ⟨by simp [*], rfl⟩)
theorem xf_New {W : World} {L : List Blk} (w : Int) (hw : 1 ≤ w ∧ w ≤ 18446744073709551615) : XF Try.prog W 7 #[.int .u64 w] L (fun v L' => ∃ r mb mo, v = .tuple #[.pointer (some ⟨r, 0, none⟩), .int .i64 0] ∧ RqOk w mo [] ∧ L' = rqB w r mb mo L) := by
  refine xf_enter (args := [_]) Try.func7 rfl Try.ntmps7 rfl ?_
  focus
    refine xc_seq ?_
    refine xc_region ?_
    refine xo_rd (rd_assign rfl) rfl ?_
    refine xo_rd (rd_assign rfl) rfl ?_
    refine xo_nil ?_
    refine xq_seq ?_
    refine xc_seq ?_
    refine xc_seq ?_
    refine xc_region ?_
    refine xo_rd (rd_move rfl) rfl ?_
    refine xo_rd (rd_eql rfl rfl) rfl ?_
    refine xo_nil ?_
    refine xq_seq ?_
    refine xc_dec rfl (fun h1 => (by exfalso; omega)) (fun h1 => ?_)
    refine xc_skip ?_
    refine xq_seq ?_
    refine xc_seq ?_
    refine xc_region ?_
    refine xo_rd (rd_move rfl) rfl ?_
    refine xo_ef rfl (ef_makeMap fun r7 => ?_)
    refine xo_rd (rd_build rfl rfl rfl) rfl ?_
    refine xo_ef rfl (ef_box rfl fun r9 => ?_)
    refine xo_rd (rd_assign rfl) rfl ?_
    refine xo_rd (rd_assign rfl) rfl ?_
    refine xo_nil ?_
    refine xq_seq ?_
    refine xc_ret ?_
  exact xq_ret2 (.inl rfl) Try.results7 rfl rfl ⟨r9, r7, _, rfl, ⟨MpIs.empty, List.Pairwise.nil, Nat.zero_le _, (fun s h => by cases h), (fun s h => by cases h), (fun s h => by cases h), (fun s h => by cases h), hw⟩, rfl⟩
theorem xf_NewE {W : World} {L : List Blk} : XF Try.prog W 7 #[.int .u64 0] L (fun v L' => v = .tuple #[.pointer none, .int .i64 2] ∧ L' = L) := by
  refine xf_enter (args := [_]) Try.func7 rfl Try.ntmps7 rfl ?_
  focus
    refine xc_seq ?_
    refine xc_region ?_
    refine xo_rd (rd_assign rfl) rfl ?_
    refine xo_rd (rd_assign rfl) rfl ?_
    refine xo_nil ?_
    refine xq_seq ?_
    refine xc_seq ?_
    refine xc_seq ?_
    refine xc_region ?_
    refine xo_rd (rd_move rfl) rfl ?_
    refine xo_rd (rd_eql rfl rfl) rfl ?_
    refine xo_nil ?_
    refine xq_seq ?_
    refine xc_condt rfl ?_
    refine xc_seq ?_
    refine xc_region ?_
    refine xo_rd (rd_assign rfl) rfl ?_
    refine xo_rd (rd_assign rfl) rfl ?_
    refine xo_nil ?_
    refine xq_seq ?_
    refine xc_ret ?_
    refine xq_then_ret ?_
  exact xq_ret2 (.inl rfl) Try.results7 rfl rfl ⟨rfl, rfl⟩
theorem askS_ok {w now : Int} {s : Sr} (hn : 0 ≤ now ∧ now ≤ 18446744073709551615) (h1 : 0 ≤ s.last ∧ s.last ≤ 18446744073709551615) (h2 : 0 ≤ s.sent ∧ s.sent < big) : (0 ≤ (askS w now s).last ∧ (askS w now s).last ≤ 18446744073709551615) ∧ (0 ≤ (askS w now s).sent ∧ (askS w now s).sent ≤ big) ∧ ((askS w now s).wt = 0 ∨ (askS w now s).wt = 1) := by
  unfold askS
  split
  · exact ⟨hn, ⟨by dsimp only; omega, by dsimp only; omega⟩, .inl rfl⟩
  · exact ⟨h1, ⟨h2.1, by dsimp only; omega⟩, .inr rfl⟩
set_option maxHeartbeats 800000 in
theorem xf_Ask {W : World} {L : List Blk} (w : Int) (r mb : Nat) (mo : Obj) (l : List Sr) (hx : RqOk w mo l) (id now : Int) (hid : 0 ≤ id ∧ id ≤ 4294967295) (hn : 0 ≤ now ∧ now ≤ 18446744073709551615) (hs : (getS l id).sent < big) (h12 : (askL w l id now).length ≤ 12) (b : Bool) (hb : mayB w (getS l id) now = b) :
    XF Try.prog W 10 #[.pointer (some ⟨r, 0, none⟩), .int .u32 id, .int .u64 now] (rqB w r mb mo L) (fun v L' => v = .bool b ∧ ∃ mo', RqOk w mo' (askL w l id now) ∧ L' = rqB w r mb mo' L) := by
  obtain ⟨g1, g2, g3⟩ := hx.get id hid
  have hgi := getS_id l id
  have hok := askS_ok (w := w) hn g1 ⟨g2.1, hs⟩
  have hput := fun mo' (h : MpIs .u32 mo' (mupd (srV l) id (some (askS w now (getS l id)).v)) (if (srV l id).isSome then l.length else l.length + 1)) => RqOk.put (mo' := mo') (s := askS w now (getS l id)) hx (by rw [askS_id, hgi]; exact h) h12 (by rw [askS_id, hgi]; exact hid) hok.1 hok.2.1 hok.2.2
  have hmp := hx.mp
  have hlk := srV_get l id
  unfold askL
  unfold askS at hput
  rw [hb] at hput
  have hl2 : putS (askS w now (getS l id)) l = putS (if b = true then ⟨(getS l id).id, now, (getS l id).sent + 1, 0⟩ else ⟨(getS l id).id, (getS l id).last, (getS l id).sent, 1⟩) l := by unfold askS; rw [hb]
  rw [hl2]
  generalize getS l id = s at *
  have hsb : s.sent < 1000000000000000 := hs
  unfold rqB
  refine xf_enter (args := [_, _, _]) Try.func10 rfl Try.ntmps10 rfl ?_
  cases b with
  | true =>
    simp only [if_true] at hput ⊢
    focus
      refine xc_seq ?_
      refine xc_region ?_
      refine xo_rd (rd_assign rfl) rfl ?_
      refine xo_nil ?_
      refine xq_seq ?_
      refine xc_seq ?_
      refine xc_seq ?_
      refine xc_region ?_
      refine xo_rd (rd_move rfl) rfl ?_
      refine xo_rd (rd_eqnil rfl) rfl ?_
      refine xo_nil ?_
      refine xq_seq ?_
      refine xc_condf rfl ?_
      refine xc_skip ?_
      refine xq_seq ?_
      refine xc_seq ?_
      refine xc_region ?_
      refine xo_rd (rd_move rfl) rfl ?_
      refine xo_rd (rd_nilCheck rfl) rfl ?_
      refine xo_rd (rd_fieldAddr rfl) rfl ?_
      refine xo_rd (rd_load1 rfl (Cl.o0 rfl)) rfl ?_
      refine xo_rd (rd_move rfl) rfl ?_
      refine xo_rd (rd_cast (v' := .agg (sEnc s.last s.sent s.wt).toArray) (rd_lookup hmp rfl rfl Kn.o1) hlk) rfl ?_
      refine xo_ef rfl (ef_alloc fun r7 => ?_)
      refine xo_ef rfl (ef_storeB [] _ rfl rfl (by first | rfl | assumption) rfl rfl rfl ?_)
      refine xo_nil ?_
      refine xq_seq ?_
      refine xc_seq ?_
      refine xc_region ?_
      refine xo_rd (rd_move rfl) rfl ?_
      refine xo_rd (rd_loadB rfl Kn.o0 (by rfl)) rfl ?_
      refine xo_rd (rd_move rfl) rfl ?_
      refine xo_ef rfl (ef_call rfl (XF.mono (xf_may r s now w (Cl.o1 rfl) g2.1 g1 hn true hb) ?_))
      rintro v L' ⟨rfl, rfl⟩
      refine xo_rd (rd_assign rfl) rfl ?_
      refine xo_nil ?_
      refine xq_seq ?_
      refine xc_seq ?_
      refine xc_seq ?_
      refine xc_region ?_
      refine xo_rd (rd_move rfl) rfl ?_
      refine xo_nil ?_
      refine xq_seq ?_
      refine xc_condt rfl ?_
      refine xc_region ?_
      refine xo_rd (rd_move rfl) rfl ?_
      refine xo_rd (rd_fieldAddr rfl) rfl ?_
      refine xo_rd (rd_load1 rfl (Cl.o0 rfl)) rfl ?_
      refine xo_rd (rd_addn rfl rfl (by omega) (by omega)) rfl ?_
      refine xo_rd (rd_cast (v' := .agg (sEnc now (s.sent + 1) 0).toArray) (rd_build (T := 51) rfl rfl rfl) (by kernel_rfl)) rfl ?_
      refine xo_ef rfl (ef_storeB [] _ rfl rfl (by first | rfl | assumption) rfl rfl rfl ?_)
      refine xo_nil ?_
      refine xq_seq ?_
      refine xc_seq ?_
      refine xc_drawM [0, 1, 2, 4, 0, 0, 63] [0, 1, 2, 4, 0, 0, 63] [] (by kernel_rfl) (by kernel_rfl) (by kernel_rfl) ?_
      refine xm_take 0 (m' := 1) rfl (by kernel_rfl) Sb.a (rd_move rfl) rfl (by kernel_rfl) ?_
      refine xm_take 1 (m' := 3) rfl (by kernel_rfl) Sb.a (rd_nilCheck rfl) rfl (by kernel_rfl) ?_
      refine xm_take 2 (m' := 7) rfl (by kernel_rfl) Sb.a (rd_fieldAddr rfl) rfl (by kernel_rfl) ?_
      refine xm_take 4 (m' := 23) rfl (by kernel_rfl) Sb.a (rd_move rfl) rfl (by kernel_rfl) ?_
      refine xm_two 3 5 (mi := 31) (mk := 55) rfl rfl (by kernel_rfl) rfl rfl (by kernel_rfl) (by kernel_rfl) (ef_rd (rd_load1 rfl (Cl.o1 rfl)) ⟨Sb.a, ?_⟩) (ef_rd (rd_loadB rfl Kn.o0 (by rfl)) ⟨Sb.a, ?_⟩)
      refine xm_one 5 (m' := 63) rfl (by kernel_rfl) rfl (by kernel_rfl) (ef_rd (rd_loadB rfl Kn.o0 (by rfl)) ?_)
      refine ⟨Sb.a, ?_⟩
      refine xm_one 6 (m' := 127) rfl (by kernel_rfl) rfl (by kernel_rfl) (ef_mapUpdate [_, _] L hmp rfl rfl rfl rfl fun mo2 hmp2 => ?_)
      refine ⟨Sb.a, ?_⟩
      refine xm_done (by kernel_rfl) ?_
      refine xq_seq ?_
      refine xc_seq ?_
      refine xc_region ?_
      refine xo_rd (rd_move rfl) rfl ?_
      refine xo_rd (rd_assign rfl) rfl ?_
      refine xo_nil ?_
      refine xq_seq ?_
      refine xc_ret ?_
      rotate_left
      refine xm_one 3 (m' := 63) rfl (by kernel_rfl) rfl (by kernel_rfl) (ef_rd (rd_load1 rfl (Cl.o1 rfl)) ?_)
      refine ⟨Sb.a, ?_⟩
      refine xm_one 6 (m' := 127) rfl (by kernel_rfl) rfl (by kernel_rfl) (ef_mapUpdate [_, _] L hmp rfl rfl rfl rfl fun mo2 hmp2 => ?_)
      refine ⟨Sb.a, ?_⟩
      refine xm_done (by kernel_rfl) ?_
      refine xq_seq ?_
      refine xc_seq ?_
      refine xc_region ?_
      refine xo_rd (rd_move rfl) rfl ?_
      refine xo_rd (rd_assign rfl) rfl ?_
      refine xo_nil ?_
      refine xq_seq ?_
      refine xc_ret ?_
      rotate_left
    all_goals exact xq_sub (List.sublist_cons_self _ _) (xq_ret1 (.inl rfl) Try.results10 rfl ⟨rfl, mo2, hput mo2 hmp2, rfl⟩)
  | false =>
    simp only [Bool.false_eq_true, if_false] at hput ⊢
    focus
      refine xc_seq ?_
      refine xc_region ?_
      refine xo_rd (rd_assign rfl) rfl ?_
      refine xo_nil ?_
      refine xq_seq ?_
      refine xc_seq ?_
      refine xc_seq ?_
      refine xc_region ?_
      refine xo_rd (rd_move rfl) rfl ?_
      refine xo_rd (rd_eqnil rfl) rfl ?_
      refine xo_nil ?_
      refine xq_seq ?_
      refine xc_condf rfl ?_
      refine xc_skip ?_
      refine xq_seq ?_
      refine xc_seq ?_
      refine xc_region ?_
      refine xo_rd (rd_move rfl) rfl ?_
      refine xo_rd (rd_nilCheck rfl) rfl ?_
      refine xo_rd (rd_fieldAddr rfl) rfl ?_
      refine xo_rd (rd_load1 rfl (Cl.o0 rfl)) rfl ?_
      refine xo_rd (rd_move rfl) rfl ?_
      refine xo_rd (rd_cast (v' := .agg (sEnc s.last s.sent s.wt).toArray) (rd_lookup hmp rfl rfl Kn.o1) hlk) rfl ?_
      refine xo_ef rfl (ef_alloc fun r7 => ?_)
      refine xo_ef rfl (ef_storeB [] _ rfl rfl (by first | rfl | assumption) rfl rfl rfl ?_)
      refine xo_nil ?_
      refine xq_seq ?_
      refine xc_seq ?_
      refine xc_region ?_
      refine xo_rd (rd_move rfl) rfl ?_
      refine xo_rd (rd_loadB rfl Kn.o0 (by rfl)) rfl ?_
      refine xo_rd (rd_move rfl) rfl ?_
      refine xo_ef rfl (ef_call rfl (XF.mono (xf_may r s now w (Cl.o1 rfl) g2.1 g1 hn false hb) ?_))
      rintro v L' ⟨rfl, rfl⟩
      refine xo_rd (rd_assign rfl) rfl ?_
      refine xo_nil ?_
      refine xq_seq ?_
      refine xc_seq ?_
      refine xc_seq ?_
      refine xc_region ?_
      refine xo_rd (rd_move rfl) rfl ?_
      refine xo_nil ?_
      refine xq_seq ?_
      refine xc_condf rfl ?_
      refine xc_region ?_
      refine xo_rd (rd_fieldAddr rfl) rfl ?_
      refine xo_ef rfl (ef_store1 [] _ rfl rfl (by first | rfl | assumption) rfl rfl rfl ?_)
      refine xo_nil ?_
      refine xq_seq ?_
      refine xc_seq ?_
      refine xc_drawM [0, 1, 2, 4, 0, 0, 63] [0, 1, 2, 4, 0, 0, 63] [] (by kernel_rfl) (by kernel_rfl) (by kernel_rfl) ?_
      refine xm_take 0 (m' := 1) rfl (by kernel_rfl) Sb.a (rd_move rfl) rfl (by kernel_rfl) ?_
      refine xm_take 1 (m' := 3) rfl (by kernel_rfl) Sb.a (rd_nilCheck rfl) rfl (by kernel_rfl) ?_
      refine xm_take 2 (m' := 7) rfl (by kernel_rfl) Sb.a (rd_fieldAddr rfl) rfl (by kernel_rfl) ?_
      refine xm_take 4 (m' := 23) rfl (by kernel_rfl) Sb.a (rd_move rfl) rfl (by kernel_rfl) ?_
      refine xm_two 3 5 (mi := 31) (mk := 55) rfl rfl (by kernel_rfl) rfl rfl (by kernel_rfl) (by kernel_rfl) (ef_rd (rd_load1 rfl (Cl.o1 rfl)) ⟨Sb.a, ?_⟩) (ef_rd (rd_loadB rfl Kn.o0 (by rfl)) ⟨Sb.a, ?_⟩)
      refine xm_one 5 (m' := 63) rfl (by kernel_rfl) rfl (by kernel_rfl) (ef_rd (rd_loadB rfl Kn.o0 (by rfl)) ?_)
      refine ⟨Sb.a, ?_⟩
      refine xm_one 6 (m' := 127) rfl (by kernel_rfl) rfl (by kernel_rfl) (ef_mapUpdate [_, _] L hmp rfl rfl rfl rfl fun mo2 hmp2 => ?_)
      refine ⟨Sb.a, ?_⟩
      refine xm_done (by kernel_rfl) ?_
      refine xq_seq ?_
      refine xc_seq ?_
      refine xc_region ?_
      refine xo_rd (rd_move rfl) rfl ?_
      refine xo_rd (rd_assign rfl) rfl ?_
      refine xo_nil ?_
      refine xq_seq ?_
      refine xc_ret ?_
      rotate_left
      refine xm_one 3 (m' := 63) rfl (by kernel_rfl) rfl (by kernel_rfl) (ef_rd (rd_load1 rfl (Cl.o1 rfl)) ?_)
      refine ⟨Sb.a, ?_⟩
      refine xm_one 6 (m' := 127) rfl (by kernel_rfl) rfl (by kernel_rfl) (ef_mapUpdate [_, _] L hmp rfl rfl rfl rfl fun mo2 hmp2 => ?_)
      refine ⟨Sb.a, ?_⟩
      refine xm_done (by kernel_rfl) ?_
      refine xq_seq ?_
      refine xc_seq ?_
      refine xc_region ?_
      refine xo_rd (rd_move rfl) rfl ?_
      refine xo_rd (rd_assign rfl) rfl ?_
      refine xo_nil ?_
      refine xq_seq ?_
      refine xc_ret ?_
      rotate_left
    all_goals exact xq_sub (List.sublist_cons_self _ _) (xq_ret1 (.inl rfl) Try.results10 rfl ⟨rfl, mo2, hput mo2 hmp2, rfl⟩)
theorem xf_Last {W : World} {L : List Blk} (w : Int) (r mb : Nat) (mo : Obj) (l : List Sr) (hx : RqOk w mo l) (id : Int) :
    XF Try.prog W 13 #[.pointer (some ⟨r, 0, none⟩), .int .u32 id] (rqB w r mb mo L) (fun v L' => v = .tuple #[.int .u64 (getS l id).last, .bool (decide (0 < (getS l id).sent))] ∧ L' = rqB w r mb mo L) := by
  have hmp := hx.mp
  have hlk := srV_get l id
  generalize getS l id = s at *
  unfold rqB
  refine xf_enter (args := [_, _]) Try.func13 rfl Try.ntmps13 rfl ?_
  focus
    refine xc_seq ?_
    refine xc_region ?_
    refine xo_rd (rd_assign rfl) rfl ?_
    refine xo_rd (rd_assign rfl) rfl ?_
    refine xo_nil ?_
    refine xq_seq ?_
    refine xc_seq ?_
    refine xc_seq ?_
    refine xc_region ?_
    refine xo_rd (rd_move rfl) rfl ?_
    refine xo_rd (rd_eqnil rfl) rfl ?_
    refine xo_nil ?_
    refine xq_seq ?_
    refine xc_condf rfl ?_
    refine xc_skip ?_
    refine xq_seq ?_
    refine xc_seq ?_
    refine xc_region ?_
    refine xo_rd (rd_move rfl) rfl ?_
    refine xo_rd (rd_nilCheck rfl) rfl ?_
    refine xo_rd (rd_fieldAddr rfl) rfl ?_
    refine xo_rd (rd_load1 rfl (Cl.o0 rfl)) rfl ?_
    refine xo_rd (rd_move rfl) rfl ?_
    refine xo_rd (rd_cast (v' := .agg (sEnc s.last s.sent s.wt).toArray) (rd_lookup hmp rfl rfl Kn.o1) hlk) rfl ?_
    refine xo_ef rfl (ef_alloc fun r6 => ?_)
    refine xo_ef rfl (ef_storeB [] _ rfl rfl (by first | rfl | assumption) rfl rfl rfl ?_)
    refine xo_nil ?_
    refine xq_seq ?_
    refine xc_seq ?_
    refine xc_drawM [0, 1, 0, 4, 8, 3, 63] [0, 1, 0, 4, 8, 3, 63] ((r6, Obj.cells (Value.agg (sEnc s.last s.sent s.wt).toArray).cells 51 (0, 0)) :: (r, .cells #[.int .u64 w, .map (some mb)] 48 (0, 0)) :: (mb, mo) :: L) (by kernel_rfl) (by kernel_rfl) (by kernel_rfl) ?_
    refine xm_take 0 (m' := 1) rfl (by kernel_rfl) Sb.a (rd_fieldAddr rfl) rfl (by kernel_rfl) ?_
    refine xm_take 1 (m' := 3) rfl (by kernel_rfl) Sb.a (rd_load1 rfl (Cl.o0 rfl)) rfl (by kernel_rfl) ?_
    refine xm_take 2 (m' := 7) rfl (by kernel_rfl) Sb.a (rd_fieldAddr rfl) rfl (by kernel_rfl) ?_
    refine xm_take 3 (m' := 15) rfl (by kernel_rfl) Sb.a (rd_load1 rfl (Cl.o0 rfl)) rfl (by kernel_rfl) ?_
    refine xm_take 4 (m' := 31) rfl (by kernel_rfl) Sb.a (rd_gtr rfl rfl) rfl (by kernel_rfl) ?_
    refine xm_take 5 (m' := 63) rfl (by kernel_rfl) Sb.a (rd_assign rfl) rfl (by kernel_rfl) ?_
    refine xm_take 6 (m' := 127) rfl (by kernel_rfl) Sb.a (rd_assign rfl) rfl (by kernel_rfl) ?_
    refine xm_done (by kernel_rfl) ?_
    refine xq_seq ?_
    refine xc_ret ?_
  all_goals exact xq_sub (List.sublist_cons_self _ _) (xq_ret2 (.inl rfl) Try.results13 rfl rfl ⟨rfl, rfl⟩)
theorem xf_Sent {W : World} {L : List Blk} (w : Int) (r mb : Nat) (mo : Obj) (l : List Sr) (hx : RqOk w mo l) (id : Int) :
    XF Try.prog W 11 #[.pointer (some ⟨r, 0, none⟩), .int .u32 id] (rqB w r mb mo L) (fun v L' => v = .int .u64 (getS l id).sent ∧ L' = rqB w r mb mo L) := by
  have hmp := hx.mp
  have hlk := srV_get l id
  generalize getS l id = s at *
  unfold rqB
  refine xf_enter (args := [_, _]) Try.func11 rfl Try.ntmps11 rfl ?_
  focus
    refine xc_seq ?_
    refine xc_region ?_
    refine xo_rd (rd_assign rfl) rfl ?_
    refine xo_nil ?_
    refine xq_seq ?_
    refine xc_seq ?_
    refine xc_seq ?_
    refine xc_region ?_
    refine xo_rd (rd_move rfl) rfl ?_
    refine xo_rd (rd_eqnil rfl) rfl ?_
    refine xo_nil ?_
    refine xq_seq ?_
    refine xc_condf rfl ?_
    refine xc_skip ?_
    refine xq_seq ?_
    refine xc_seq ?_
    refine xc_region ?_
    refine xo_rd (rd_move rfl) rfl ?_
    refine xo_rd (rd_nilCheck rfl) rfl ?_
    refine xo_rd (rd_fieldAddr rfl) rfl ?_
    refine xo_rd (rd_load1 rfl (Cl.o0 rfl)) rfl ?_
    refine xo_rd (rd_move rfl) rfl ?_
    refine xo_rd (rd_cast (v' := .agg (sEnc s.last s.sent s.wt).toArray) (rd_lookup hmp rfl rfl Kn.o1) hlk) rfl ?_
    refine xo_rd (rd_field1 rfl rfl) rfl ?_
    refine xo_rd (rd_assign rfl) rfl ?_
    refine xo_nil ?_
    refine xq_seq ?_
    refine xc_ret ?_
  exact xq_ret1 (.inl rfl) Try.results11 rfl ⟨rfl, rfl⟩
end Go.Proofs.Ytoolgphkfnkajaa.X
