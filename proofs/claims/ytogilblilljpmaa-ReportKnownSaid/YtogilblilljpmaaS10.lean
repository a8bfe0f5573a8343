/-
  Texts of my own, put together: walks and laws for this seat. No condition.
-/
import Derived.Test.YtogilblilljpmaaS9
/-
  The report layer: packets that go out: few, copied, counted: walks of my own.
-/
namespace Go.Proofs.Ytogilblilljpmaa.X
open Go Go.RowKit
set_option linter.unusedVariables false
set_option linter.unusedSimpArgs false
structure Pk where
  mr : Bool
  ty : Int
  sq : Int
  tm : Int
  ss : Int
  cs : List Int
  hx : Bool
  pf : Int
  ex : List Int
  pl : List Int
  pd : Int
def Pk.enc (p : Pk) (v1 v2 v3 : Value) : List Value := [.bool p.mr, .int .u8 p.ty, .int .u16 p.sq, .int .u32 p.tm, .int .u32 p.ss, v1, .bool p.hx, .int .u16 p.pf, v2, v3, .int .u8 p.pd]
structure Sd where
  q : Pk
  p1 : Option Addr
  p2 : Option Addr
  p3 : Option Addr
  c1 : Nat
  c2 : Nat
  c3 : Nat
  now : Int
def Sd.pe (x : Sd) : List Value := x.q.enc (.slice x.p1 x.q.cs.length x.c1) (.slice x.p2 x.q.ex.length x.c2) (.slice x.p3 x.q.pl.length x.c3)
def Sd.enc (x : Sd) : List Value := x.pe ++ [.int .u64 x.now]
theorem Sd.len (x : Sd) : x.enc.length = 12 := rfl
def Sd.few (x : Sd) : Prop := x.q.cs.length ≤ 20 ∧ x.q.ex.length ≤ 400 ∧ x.q.pl.length ≤ 400
instance (x : Sd) : Decidable x.few := by unfold Sd.few; infer_instance
structure Sd.At (W : World) (L : List Blk) (x : Sd) : Prop where
  cs : Rs W L x.p1 (ints .u32 x.q.cs)
  ex : Rs W L x.p2 (ints .u8 x.q.ex)
  pl : Rs W L x.p3 (ints .u8 x.q.pl)
  tm : U4 x.q.tm
  now : U8 x.now
  l1 : x.q.cs.length ≤ 9223372036854775807
  l2 : x.q.ex.length ≤ 9223372036854775807
  l3 : x.q.pl.length ≤ 9223372036854775807
theorem Sd.At.mono {W : World} {L L' : List Blk} {x : Sd} (h : x.At W L) (hm : ∀ z, z ∈ L → z ∈ L') : x.At W L' := ⟨h.cs.mono hm, h.ex.mono hm, h.pl.mono hm, h.tm, h.now, h.l1, h.l2, h.l3⟩
theorem Sd.At.over {W w : World} {L : List Blk} {x : Sd} (h : x.At W L) (hw : Hp W w L) : x.At w [] := ⟨h.cs.over hw, h.ex.over hw, h.pl.over hw, h.tm, h.now, h.l1, h.l2, h.l3⟩
section
variable {W : World} {L : List Blk}
theorem xf_fewPacket (x : Sd) (h1 : x.q.cs.length ≤ 9223372036854775807) (h2 : x.q.ex.length ≤ 9223372036854775807) (h3 : x.q.pl.length ≤ 9223372036854775807) (r : Bool) (hr : decide (x.q.cs.length ≤ 20 ∧ x.q.ex.length ≤ 400 ∧ x.q.pl.length ≤ 400) = r) : XF Try.prog W 48 #[.agg x.pe.toArray] L (fun v L' => v = .bool r ∧ L' = L) := by
  subst hr
  refine xf_enter (args := [_]) Try.func48 rfl Try.ntmps48 rfl ?_
  obtain ⟨⟨mr, ty, sq, tm, ss, cs, hx, pf, ex, pl, pd⟩, p1, p2, p3, c1, c2, c3, now⟩ := x
  dsimp only [Sd.pe, Pk.enc] at *
  focus
    refine xc_seq ?_
    refine xc_region ?_
    refine xo_ef rfl (ef_box rfl fun r1 => ?_)
    refine xo_rd (rd_assign rfl) rfl ?_
    refine xo_nil ?_
    refine xq_seq ?_
    refine xc_seq ?_
    refine xc_region ?_
    refine xo_rd (rd_fieldAddr rfl) rfl ?_
    refine xo_rd (rd_load1 rfl (Cl.o0 rfl)) rfl ?_
    refine xo_rd (rd_len rfl) rfl ?_
    refine xo_rd (rd_leq rfl rfl) rfl ?_
    refine xo_rd (rd_move rfl) rfl ?_
    refine xo_dec 7 rfl (fun hw1 => ?_) (fun hw1 => ?_)
    refine xo_grd rfl rfl (rd_fieldAddr rfl) rfl ?_
    refine xo_grd rfl rfl (rd_load1 rfl (Cl.o0 rfl)) rfl ?_
    refine xo_grd rfl rfl (rd_len rfl) rfl ?_
    refine xo_grd rfl rfl (rd_leq rfl rfl) rfl ?_
    refine xo_rd (rd_pickt rfl rfl) rfl ?_
    refine xo_rd (rd_move rfl) rfl ?_
    refine xo_dec 13 rfl (fun hw2 => ?_) (fun hw2 => ?_)
    refine xo_grd rfl rfl (rd_fieldAddr rfl) rfl ?_
    refine xo_grd rfl rfl (rd_load1 rfl (Cl.o0 rfl)) rfl ?_
    refine xo_grd rfl rfl (rd_len rfl) rfl ?_
    refine xo_grd rfl rfl (rd_leq rfl rfl) rfl ?_
    refine xo_rd (rd_pickt rfl rfl) rfl ?_
    refine xo_rd (rd_assign rfl) rfl ?_
    refine xo_nil ?_
    refine xq_seq ?_
    refine xc_ret ?_
    rotate_left
    refine xo_gskip rfl rfl rfl rfl ?_
    refine xo_gskip rfl rfl rfl rfl ?_
    refine xo_gskip rfl rfl rfl rfl ?_
    refine xo_gskip rfl rfl rfl rfl ?_
    refine xo_rd (rd_pickf rfl rfl) rfl ?_
    refine xo_rd (rd_assign rfl) rfl ?_
    refine xo_nil ?_
    refine xq_seq ?_
    refine xc_ret ?_
    rotate_left
    refine xo_gskip rfl rfl rfl rfl ?_
    refine xo_gskip rfl rfl rfl rfl ?_
    refine xo_gskip rfl rfl rfl rfl ?_
    refine xo_gskip rfl rfl rfl rfl ?_
    refine xo_rd (rd_pickf rfl rfl) rfl ?_
    refine xo_rd (rd_move rfl) rfl ?_
    refine xo_gskip rfl rfl rfl rfl ?_
    refine xo_gskip rfl rfl rfl rfl ?_
    refine xo_gskip rfl rfl rfl rfl ?_
    refine xo_gskip rfl rfl rfl rfl ?_
    refine xo_rd (rd_pickf rfl rfl) rfl ?_
    refine xo_rd (rd_assign rfl) rfl ?_
    refine xo_nil ?_
    refine xq_seq ?_
    refine xc_ret ?_
    rotate_left
  all_goals refine xq_sub (L' := L) (List.sublist_cons_self _ _) (xq_ret1 (.inl rfl) Try.results48 rfl ⟨congrArg Value.bool ?_, rfl⟩)
  all_goals first
    | exact (decide_eq_false (by omega)).symm
    | exact (decide_eq_true (by omega)).symm
    | (rw [decide_eq_decide]; omega)
set_option maxHeartbeats 4000000 in
theorem xf_few (p : Option Addr) (n c : Nat) (xs : List Sd) (pb : Option Addr) (k cb : Nat) (r : Bool) (hres : decide ((∀ x, x ∈ xs → x.few) ∧ n ≤ 40 ∧ k ≤ 40) = r) (hx : xs.length = n) (hA : Rs W L p (xs.flatMap Sd.enc)) (hE : ∀ x, x ∈ xs → x.At W L) (hn : n ≤ 9223372036854775807) (hk : k ≤ 9223372036854775807) :
    XF Try.prog W 28 #[.slice p n c, .slice pb k cb] L (fun v L' => v = .bool r ∧ L' = L) := by
  subst hres
  refine xf_enter (args := [_, _]) Try.func28 rfl Try.ntmps28 rfl ?_
  focus
    refine xc_seq ?_
    refine xc_region ?_
    refine xo_rd (rd_assign rfl) rfl ?_
    refine xo_nil ?_
    refine xq_seq ?_
    refine xc_seq ?_
    refine xc_seq ?_
    refine xc_region ?_
    refine xo_rd (rd_assign rfl) rfl ?_
    refine xo_nil ?_
    refine xq_seq ?_
    refine xc_block ?_
  refine xc_loopK (ι := Nat) (fun i => i ≤ n ∧ ∀ x, x ∈ xs.take i → x.few) (fun i => n - i) (fun i => [(0, .slice p n c), (1, .slice pb k cb), (5, .int .i64 i)]) 0 ⟨Nat.zero_le _, fun x h => by cases h⟩ (by repeat (first | exact keep_nil | refine keep_cons rfl ?_)) ?_
  rintro i ⟨hi, he⟩
  by_cases hin : i < n
  · obtain ⟨b, o, hp, hc1⟩ := hA.rows Sd.len (by decide) (by omega)
    subst hp
    have hci := hc1 i (by omega)
    have e1 : xs[i]? = some xs[i] := List.getElem?_eq_getElem (by omega)
    have hm : xs[i] ∈ xs := List.getElem_mem _
    have hE' := hE _ hm
    generalize xs[i] = x at *
    have hcI : ∀ (j : Nat) (u : Value), x.pe[j]? = some u → Cl W L b (o + (i : Int).toNat * 12 + j) u := fun j u hj => hci j u (by unfold Sd.enc; rw [List.getElem?_append_left (List.getElem?_eq_some_iff.1 hj).1]; exact hj)
    by_cases hf : x.few
    · skip
      focus
        refine xc_seq ?_
        refine xc_seq ?_
        refine xc_region ?_
        refine xo_rd (rd_move rfl) rfl ?_
        refine xo_rd (rd_move rfl) rfl ?_
        refine xo_rd (rd_len rfl) rfl ?_
        refine xo_rd (rd_lss rfl rfl) rfl ?_
        refine xo_nil ?_
        refine xq_seq ?_
        refine xc_dec rfl (fun hq1 => ?_) (fun hq1 => (by exfalso; omega))
        refine xc_skip ?_
        refine xq_seq ?_
        refine xc_seq ?_
        refine xc_block ?_
        refine xc_seq ?_
        refine xc_region ?_
        refine xo_rd (rd_move rfl) rfl ?_
        refine xo_rd (rd_move rfl) rfl ?_
        refine xo_rd (rd_indexAddr rfl rfl (by omega) (by omega)) rfl ?_
        refine xo_rd (rd_fieldAddr rfl) rfl ?_
        refine xo_rd (rd_loadA (vs := x.pe) rfl rfl hcI) rfl ?_
        refine xo_ef rfl (ef_call rfl (XF.mono (xf_fewPacket x hE'.l1 hE'.l2 hE'.l3 true (decide_eq_true hf)) ?_))
        rintro v L' ⟨rfl, rfl⟩
        refine xo_rd (rd_not rfl) rfl ?_
        refine xo_nil ?_
        refine xq_seq ?_
        refine xc_condf rfl ?_
        refine xc_skip ?_
        refine xq_block ?_
        refine xq_seq ?_
        refine xc_region ?_
        refine xo_rd (rd_move rfl) rfl ?_
        refine xo_rd (rd_addn rfl rfl (by omega) (by omega)) rfl ?_
        refine xo_rd (rd_assign rfl) rfl ?_
        refine xo_nil ?_
      refine xq_roundK rfl (i + 1) ⟨by omega, ?_⟩ (by omega) (List.Sublist.refl _) (by repeat (first | exact keep_nil | refine keep_cons rfl ?_))
      rw [List.take_add_one, e1]
      intro z hz
      rcases List.mem_append.1 hz with h | h
      · exact he z h
      · rw [List.mem_singleton.1 h]; exact hf
    · skip
      focus
        refine xc_seq ?_
        refine xc_seq ?_
        refine xc_region ?_
        refine xo_rd (rd_move rfl) rfl ?_
        refine xo_rd (rd_move rfl) rfl ?_
        refine xo_rd (rd_len rfl) rfl ?_
        refine xo_rd (rd_lss rfl rfl) rfl ?_
        refine xo_nil ?_
        refine xq_seq ?_
        refine xc_dec rfl (fun hq1 => ?_) (fun hq1 => (by exfalso; omega))
        refine xc_skip ?_
        refine xq_seq ?_
        refine xc_seq ?_
        refine xc_block ?_
        refine xc_seq ?_
        refine xc_region ?_
        refine xo_rd (rd_move rfl) rfl ?_
        refine xo_rd (rd_move rfl) rfl ?_
        refine xo_rd (rd_indexAddr rfl rfl (by omega) (by omega)) rfl ?_
        refine xo_rd (rd_fieldAddr rfl) rfl ?_
        refine xo_rd (rd_loadA (vs := x.pe) rfl rfl hcI) rfl ?_
        refine xo_ef rfl (ef_call rfl (XF.mono (xf_fewPacket x hE'.l1 hE'.l2 hE'.l3 false (decide_eq_false hf)) ?_))
        rintro v L' ⟨rfl, rfl⟩
        refine xo_rd (rd_not rfl) rfl ?_
        refine xo_nil ?_
        refine xq_seq ?_
        refine xc_condt rfl ?_
        refine xc_seq ?_
        refine xc_region ?_
        refine xo_rd (rd_assign rfl) rfl ?_
        refine xo_nil ?_
        refine xq_seq ?_
        refine xc_ret ?_
        refine xq_block_ret ?_
        refine xq_then_ret ?_
        refine xq_then_ret ?_
        refine xq_block_ret ?_
        refine xq_then_ret ?_
      exact xq_ret1 (.inl rfl) Try.results28 rfl ⟨congrArg Value.bool (decide_eq_false fun e => hf (e.1 x hm)).symm, rfl⟩
  · have hin' : i = n := by omega
    subst hin'
    rw [List.take_of_length_le (by omega)] at he
    focus
      refine xc_seq ?_
      refine xc_seq ?_
      refine xc_region ?_
      refine xo_rd (rd_move rfl) rfl ?_
      refine xo_rd (rd_move rfl) rfl ?_
      refine xo_rd (rd_len rfl) rfl ?_
      refine xo_rd (rd_lss rfl rfl) rfl ?_
      refine xo_nil ?_
      refine xq_seq ?_
      refine xc_dec rfl (fun hw1 => (by exfalso; omega)) (fun hw1 => ?_)
      refine xc_exit ?_
      refine xq_then_exit ?_
      refine xq_then_exit ?_
      refine xq_block_hit ?_
      refine xq_seq ?_
      refine xc_seq ?_
      refine xc_region ?_
      refine xo_rd (rd_move rfl) rfl ?_
      refine xo_rd (rd_len rfl) rfl ?_
      refine xo_rd (rd_leq rfl rfl) rfl ?_
      refine xo_rd (rd_move rfl) rfl ?_
      refine xo_dec 22 rfl (fun hw2 => ?_) (fun hw2 => ?_)
      refine xo_grd rfl rfl (rd_move rfl) rfl ?_
      refine xo_grd rfl rfl (rd_len rfl) rfl ?_
      refine xo_grd rfl rfl (rd_leq rfl rfl) rfl ?_
      refine xo_rd (rd_pickt rfl rfl) rfl ?_
      refine xo_rd (rd_assign rfl) rfl ?_
      refine xo_nil ?_
      refine xq_seq ?_
      refine xc_ret ?_
      rotate_left
      refine xo_gskip rfl rfl rfl rfl ?_
      refine xo_gskip rfl rfl rfl rfl ?_
      refine xo_gskip rfl rfl rfl rfl ?_
      refine xo_rd (rd_pickf rfl rfl) rfl ?_
      refine xo_rd (rd_assign rfl) rfl ?_
      refine xo_nil ?_
      refine xq_seq ?_
      refine xc_ret ?_
      rotate_left
    all_goals refine xq_ret1 (.inl rfl) Try.results28 rfl ⟨congrArg Value.bool ?_, rfl⟩
    all_goals first
      | exact (decide_eq_false fun h => by have := h.2.1; have := h.2.2; omega).symm
      | exact (decide_eq_true ⟨he, by omega, by omega⟩).symm
      | (rw [decide_eq_decide]; exact ⟨fun h => ⟨he, by omega, by omega⟩, fun h => by have := h.2.1; have := h.2.2; omega⟩)
set_option maxHeartbeats 2000000 in
theorem xf_dPacket (x : Sd) (h : x.At W L) (hf : x.few) :
    XF Try.prog W 31 #[.agg x.pe.toArray] L (fun v L' => ∃ v1 v2 p k l, v = .agg (x.q.enc v1 v2 (.slice p x.q.pl.length k)).toArray ∧ L' = l ++ L) := by
  refine xf_enter (args := [_]) Try.func31 rfl Try.ntmps31 rfl ?_
  obtain ⟨⟨mr, ty, sq, tm, ss, cs, hx, pf, ex, pl, pd⟩, p1, p2, p3, c1, c2, c3, now⟩ := x
  obtain ⟨h1, h2, h3, _, _, _, _, _⟩ := h
  obtain ⟨b1, b2, b3⟩ := hf
  dsimp only [Sd.pe, Pk.enc] at *
  focus
    refine xc_seq ?_
    refine xc_region ?_
    refine xo_ef rfl (ef_box rfl fun r1 => ?_)
    refine xo_ef rfl (ef_alloc fun r2 => ?_)
    refine xo_nil ?_
    refine xq_seq ?_
    refine xc_seq ?_
    refine xc_region ?_
    refine xo_rd (rd_assign rfl) rfl ?_
    refine xo_nil ?_
    refine xq_seq ?_
    refine xc_seq ?_
    refine xc_drawM [0, 1, 0, 4, 0, 16, 0, 64, 0, 256, 0, 0, 2048, 5120, 0, 16384, 0, 65536, 0, 262144, 532480, 0, 2097152, 5242880, 0, 16777216, 43164330, 134217727] [0, 1, 0, 4, 0, 16, 0, 64, 0, 256, 0, 0, 2048, 5120, 0, 16384, 0, 65536, 0, 262144, 532480, 0, 2097152, 5242880, 0, 16777216, 43164330, 134217727] ([(r1, .cells #[.bool mr, .int .u8 ty, .int .u16 sq, .int .u32 tm, .int .u32 ss, .slice p1 cs.length c1, .bool hx, .int .u16 pf, .slice p2 ex.length c2, .slice p3 pl.length c3, .int .u8 pd] 51 (0, 0))]) (by kernel_rfl) (by kernel_rfl) (by kernel_rfl) ?_
    refine xm_take 0 (m' := 1) rfl (by kernel_rfl) (by first | exact Sb.refl | exact Sb.nil | (repeat (first | exact Sb.nil | exact Sb.refl | exact Sb.app0 | apply Sb.keep | apply Sb.keepApp | apply Sb.cons | apply Sb.app))) (rd_fieldAddr rfl) rfl (by kernel_rfl) ?_
    refine xm_take 1 (m' := 3) rfl (by kernel_rfl) (by first | exact Sb.refl | exact Sb.nil | (repeat (first | exact Sb.nil | exact Sb.refl | exact Sb.app0 | apply Sb.keep | apply Sb.keepApp | apply Sb.cons | apply Sb.app))) (rd_load1 rfl (Cl.o0 rfl)) rfl (by kernel_rfl) ?_
    refine xm_take 2 (m' := 7) rfl (by kernel_rfl) (by first | exact Sb.refl | exact Sb.nil | (repeat (first | exact Sb.nil | exact Sb.refl | exact Sb.app0 | apply Sb.keep | apply Sb.keepApp | apply Sb.cons | apply Sb.app))) (rd_fieldAddr rfl) rfl (by kernel_rfl) ?_
    refine xm_take 3 (m' := 15) rfl (by kernel_rfl) (by first | exact Sb.refl | exact Sb.nil | (repeat (first | exact Sb.nil | exact Sb.refl | exact Sb.app0 | apply Sb.keep | apply Sb.keepApp | apply Sb.cons | apply Sb.app))) (rd_load1 rfl (Cl.o0 rfl)) rfl (by kernel_rfl) ?_
    refine xm_take 4 (m' := 31) rfl (by kernel_rfl) (by first | exact Sb.refl | exact Sb.nil | (repeat (first | exact Sb.nil | exact Sb.refl | exact Sb.app0 | apply Sb.keep | apply Sb.keepApp | apply Sb.cons | apply Sb.app))) (rd_fieldAddr rfl) rfl (by kernel_rfl) ?_
    refine xm_take 5 (m' := 63) rfl (by kernel_rfl) (by first | exact Sb.refl | exact Sb.nil | (repeat (first | exact Sb.nil | exact Sb.refl | exact Sb.app0 | apply Sb.keep | apply Sb.keepApp | apply Sb.cons | apply Sb.app))) (rd_load1 rfl (Cl.o0 rfl)) rfl (by kernel_rfl) ?_
    refine xm_take 6 (m' := 127) rfl (by kernel_rfl) (by first | exact Sb.refl | exact Sb.nil | (repeat (first | exact Sb.nil | exact Sb.refl | exact Sb.app0 | apply Sb.keep | apply Sb.keepApp | apply Sb.cons | apply Sb.app))) (rd_fieldAddr rfl) rfl (by kernel_rfl) ?_
    refine xm_take 7 (m' := 255) rfl (by kernel_rfl) (by first | exact Sb.refl | exact Sb.nil | (repeat (first | exact Sb.nil | exact Sb.refl | exact Sb.app0 | apply Sb.keep | apply Sb.keepApp | apply Sb.cons | apply Sb.app))) (rd_load1 rfl (Cl.o0 rfl)) rfl (by kernel_rfl) ?_
    refine xm_take 8 (m' := 511) rfl (by kernel_rfl) (by first | exact Sb.refl | exact Sb.nil | (repeat (first | exact Sb.nil | exact Sb.refl | exact Sb.app0 | apply Sb.keep | apply Sb.keepApp | apply Sb.cons | apply Sb.app))) (rd_fieldAddr rfl) rfl (by kernel_rfl) ?_
    refine xm_take 9 (m' := 1023) rfl (by kernel_rfl) (by first | exact Sb.refl | exact Sb.nil | (repeat (first | exact Sb.nil | exact Sb.refl | exact Sb.app0 | apply Sb.keep | apply Sb.keepApp | apply Sb.cons | apply Sb.app))) (rd_load1 rfl (Cl.o0 rfl)) rfl (by kernel_rfl) ?_
    refine xm_take 10 (m' := 2047) rfl (by kernel_rfl) (by first | exact Sb.refl | exact Sb.nil | (repeat (first | exact Sb.nil | exact Sb.refl | exact Sb.app0 | apply Sb.keep | apply Sb.keepApp | apply Sb.cons | apply Sb.app))) (rd_move rfl) rfl (by kernel_rfl) ?_
    refine xm_take 11 (m' := 4095) rfl (by kernel_rfl) (by first | exact Sb.refl | exact Sb.nil | (repeat (first | exact Sb.nil | exact Sb.refl | exact Sb.app0 | apply Sb.keep | apply Sb.keepApp | apply Sb.cons | apply Sb.app))) (rd_fieldAddr rfl) rfl (by kernel_rfl) ?_
    refine xm_take 12 (m' := 8191) rfl (by kernel_rfl) (by first | exact Sb.refl | exact Sb.nil | (repeat (first | exact Sb.nil | exact Sb.refl | exact Sb.app0 | apply Sb.keep | apply Sb.keepApp | apply Sb.cons | apply Sb.app))) (rd_load1 rfl (Cl.o0 rfl)) rfl (by kernel_rfl) ?_
    refine xm_take 14 (m' := 24575) rfl (by kernel_rfl) (by first | exact Sb.refl | exact Sb.nil | (repeat (first | exact Sb.nil | exact Sb.refl | exact Sb.app0 | apply Sb.keep | apply Sb.keepApp | apply Sb.cons | apply Sb.app))) (rd_fieldAddr rfl) rfl (by kernel_rfl) ?_
    refine xm_take 15 (m' := 57343) rfl (by kernel_rfl) (by first | exact Sb.refl | exact Sb.nil | (repeat (first | exact Sb.nil | exact Sb.refl | exact Sb.app0 | apply Sb.keep | apply Sb.keepApp | apply Sb.cons | apply Sb.app))) (rd_load1 rfl (Cl.o0 rfl)) rfl (by kernel_rfl) ?_
    refine xm_take 16 (m' := 122879) rfl (by kernel_rfl) (by first | exact Sb.refl | exact Sb.nil | (repeat (first | exact Sb.nil | exact Sb.refl | exact Sb.app0 | apply Sb.keep | apply Sb.keepApp | apply Sb.cons | apply Sb.app))) (rd_fieldAddr rfl) rfl (by kernel_rfl) ?_
    refine xm_take 17 (m' := 253951) rfl (by kernel_rfl) (by first | exact Sb.refl | exact Sb.nil | (repeat (first | exact Sb.nil | exact Sb.refl | exact Sb.app0 | apply Sb.keep | apply Sb.keepApp | apply Sb.cons | apply Sb.app))) (rd_load1 rfl (Cl.o0 rfl)) rfl (by kernel_rfl) ?_
    refine xm_take 18 (m' := 516095) rfl (by kernel_rfl) (by first | exact Sb.refl | exact Sb.nil | (repeat (first | exact Sb.nil | exact Sb.refl | exact Sb.app0 | apply Sb.keep | apply Sb.keepApp | apply Sb.cons | apply Sb.app))) (rd_fieldAddr rfl) rfl (by kernel_rfl) ?_
    refine xm_take 19 (m' := 1040383) rfl (by kernel_rfl) (by first | exact Sb.refl | exact Sb.nil | (repeat (first | exact Sb.nil | exact Sb.refl | exact Sb.app0 | apply Sb.keep | apply Sb.keepApp | apply Sb.cons | apply Sb.app))) (rd_load1 rfl (Cl.o0 rfl)) rfl (by kernel_rfl) ?_
    refine xm_take 21 (m' := 3137535) rfl (by kernel_rfl) (by first | exact Sb.refl | exact Sb.nil | (repeat (first | exact Sb.nil | exact Sb.refl | exact Sb.app0 | apply Sb.keep | apply Sb.keepApp | apply Sb.cons | apply Sb.app))) (rd_fieldAddr rfl) rfl (by kernel_rfl) ?_
    refine xm_take 22 (m' := 7331839) rfl (by kernel_rfl) (by first | exact Sb.refl | exact Sb.nil | (repeat (first | exact Sb.nil | exact Sb.refl | exact Sb.app0 | apply Sb.keep | apply Sb.keepApp | apply Sb.cons | apply Sb.app))) (rd_load1 rfl (Cl.o0 rfl)) rfl (by kernel_rfl) ?_
    refine xm_take 24 (m' := 24109055) rfl (by kernel_rfl) (by first | exact Sb.refl | exact Sb.nil | (repeat (first | exact Sb.nil | exact Sb.refl | exact Sb.app0 | apply Sb.keep | apply Sb.keepApp | apply Sb.cons | apply Sb.app))) (rd_fieldAddr rfl) rfl (by kernel_rfl) ?_
    refine xm_take 25 (m' := 57663487) rfl (by kernel_rfl) (by first | exact Sb.refl | exact Sb.nil | (repeat (first | exact Sb.nil | exact Sb.refl | exact Sb.app0 | apply Sb.keep | apply Sb.keepApp | apply Sb.cons | apply Sb.app))) (rd_load1 rfl (Cl.o0 rfl)) rfl (by kernel_rfl) ?_
    refine xm_one 13 (m' := 57671679) rfl (by kernel_rfl) rfl (by kernel_rfl) (ef_appendS [_, _] L [] (news := ints .u32 cs) rfl rfl SlO.nil rfl (h1.mono (by intro z hz; simp [hz])) (by rw [ints_len, Nat.mul_one]) (ints_one _ _) (by decide) (by omega) (by omega) fun q1 k1 l1 hO1 hk1 => ?_)
    refine ⟨(by first | exact Sb.refl | exact Sb.nil | (repeat (first | exact Sb.nil | exact Sb.refl | exact Sb.app0 | apply Sb.keep | apply Sb.keepApp | apply Sb.cons | apply Sb.app))), ?_⟩
    refine xm_one 20 (m' := 58720255) rfl (by kernel_rfl) rfl (by kernel_rfl) (ef_call rfl (XF.mono (xf_own p2 ex.length c2 (ints .u8 ex) (by rw [ints_len, Nat.mul_one]) (h2.mono (by intro z hz; simp [hz])) (ints_one _ _) (by omega)) ?_))
    rintro v L' ⟨q2, k2, l2, rfl, hO2, _, rfl⟩
    refine xmx_perm List.perm_append_comm ?_
    refine ⟨(by first | exact Sb.refl | exact Sb.nil | (repeat (first | exact Sb.nil | exact Sb.refl | exact Sb.app0 | apply Sb.keep | apply Sb.keepApp | apply Sb.cons | apply Sb.app))), ?_⟩
    refine xm_one 23 (m' := 67108863) rfl (by kernel_rfl) rfl (by kernel_rfl) (ef_call rfl (XF.mono (xf_own p3 pl.length c3 (ints .u8 pl) (by rw [ints_len, Nat.mul_one]) (h3.mono (by intro z hz; simp [hz])) (ints_one _ _) (by omega)) ?_))
    rintro v L' ⟨q3, k3, l3, rfl, hO3, _, rfl⟩
    refine xmx_perm List.perm_append_comm ?_
    refine ⟨(by first | exact Sb.refl | exact Sb.nil | (repeat (first | exact Sb.nil | exact Sb.refl | exact Sb.app0 | apply Sb.keep | apply Sb.keepApp | apply Sb.cons | apply Sb.app))), ?_⟩
    refine xm_take 26 (m' := 134217727) rfl (by kernel_rfl) (by first | exact Sb.refl | exact Sb.nil | (repeat (first | exact Sb.nil | exact Sb.refl | exact Sb.app0 | apply Sb.keep | apply Sb.keepApp | apply Sb.cons | apply Sb.app))) (rd_build rfl rfl rfl) rfl (by kernel_rfl) ?_
    refine xm_one 27 (m' := 268435455) rfl (by kernel_rfl) rfl (by kernel_rfl) (ef_storeB [] _ rfl rfl (by first | rfl | assumption) rfl rfl rfl ?_)
    refine ⟨(by first | exact Sb.refl | exact Sb.nil | (repeat (first | exact Sb.nil | exact Sb.refl | exact Sb.app0 | apply Sb.keep | apply Sb.keepApp | apply Sb.cons | apply Sb.app))), ?_⟩
    refine xm_done (by kernel_rfl) ?_
    refine xq_seq ?_
    refine xc_ret ?_
  rw [Nat.zero_add]
  refine xq_perm (L' := (r2, _) :: (r1, _) :: ((l1 ++ (l2 ++ l3)) ++ L)) (.cons _ (.cons _ (by classical exact List.perm_iff_count.2 fun a => by simp only [List.append_eq, List.count_append, List.count_cons, List.count_nil, List.cons_append, List.nil_append, List.flatMap_append, List.flatMap_cons, List.flatMap_nil, List.append_nil]; omega))) ?_
  exact xq_retB (.inl rfl) Try.results31 rfl Kn.o0 rfl ((List.sublist_cons_self _ _).trans (List.sublist_cons_self _ _)) ⟨_, _, _, _, l1 ++ (l2 ++ l3), rfl, rfl⟩
end
end Go.Proofs.Ytogilblilljpmaa.X
/-
  The report layer's plain law: a compound is read as it was told. No program in sight.
-/
namespace Go.Proofs.Ytogilblilljpmaa.X
open Go Go.RowKit
set_option linter.unusedVariables false
set_option linter.unusedSimpArgs false
theorem sndR_kd {x : Sn} {q : Pc} (h : sndR x = (q, 0)) : q.kd = 200 := by
  unfold sndR at h; split at h
  · rw [← (Prod.mk.inj h).1]
  · exact absurd (Prod.mk.inj h).2 (by decide)
theorem rcvR_kd {ss : Int} {bl : List Bk} {q : Pc} (h : rcvR ss bl = (q, 0)) : q.kd = 201 := by
  unfold rcvR at h; split at h
  · rw [← (Prod.mk.inj h).1]
  · exact absurd (Prod.mk.inj h).2 (by decide)
theorem ofRc_kd {q : Pc} (h : q.kd = 200) : ofRc q = ((0, []), 62) := by
  have ht : ∀ r, toldE q r 201 false = 62 := fun r => by unfold toldE; rw [if_pos (by rw [h]; decide)]
  unfold ofRc; rw [ht, if_neg (by decide)]
theorem ofSn_kd {q : Pc} (h : q.kd = 201) : ofSn q = (.zero, 62) := by
  have ht : ∀ r, toldE q r 200 false = 62 := fun r => by unfold toldE; rw [if_pos (by rw [h]; decide)]
  unfold ofSn; rw [ht, if_neg (by decide)]
/-- What is read of a compound that was put. -/
structure Told (o : Oo) (now : Int) (nm : ByteArray) (bs : List Bk) (out : List Int) (q1 q2 : Pc) : Prop where
  by' : ∀ x, x ∈ out → By x
  sp : splitL (out.length + 1) true out = ([q1, q2], 0)
  sn : ofSn q1 = if 0 < o.pk then (sndF o now bs, 0) else (.zero, 62)
  rc : ofRc q1 = if 0 < o.pk then ((0, []), 62) else ((o.ss, bs), 0)
  ch : ofCh q2 = ([⟨o.ss, nm⟩], 0)
  l1 : q1.bd.length ≤ 1000000
  l2 : q2.bd.length ≤ 1000000
theorem told {o : Oo} {now : Int} {nm : ByteArray} {bs : List Bk} {out : List Int} (ho : o.Rg) (hn : U8 now) (hx : ∀ x, x ∈ bs → x.Rg) (hl : bs.length ≤ 1000) (h : cmpF o now nm bs = (out, 0)) : ∃ q1 q2, Told o now nm bs out q1 q2 := by
  have hu : ∀ x, x ∈ [(⟨o.ss, nm⟩ : Ck)] → U4 x.ss := fun x h => by rw [List.mem_singleton.1 h]; exact ho.ss
  have r1 := cmpA_rg ho hn hx
  have r2 := putCh_rg hu
  have m1 := cmpA_len o now bs
  have m2 := putCh_len [⟨o.ss, nm⟩]
  unfold cmpF at h
  split at h
  · exact absurd (Prod.mk.inj h).2 (by decide)
  · rename_i hne
    have hA0 : (cmpA o now bs).2 = 0 := Classical.byContradiction fun hc => hne (.inl hc)
    have hC0 : (putCh [⟨o.ss, nm⟩]).2 = 0 := Classical.byContradiction fun hc => hne (.inr hc)
    obtain ⟨⟨q1, e1⟩, hq1⟩ : ∃ z, cmpA o now bs = z := ⟨_, rfl⟩
    obtain ⟨⟨q2, e2⟩, hq2⟩ : ∃ z, putCh [⟨o.ss, nm⟩] = z := ⟨_, rfl⟩
    rw [hq1] at h hA0 r1 m1
    rw [hq2] at h hC0 r2 m2
    dsimp only at h hA0 hC0 r1 r2 m1 m2
    subst hA0 hC0
    obtain ⟨j1, j2, j3, j4⟩ := joinL_ok h
    have hrg : ∀ q, q ∈ [q1, q2] → q.Rg := fun q hq => by
      simp only [List.mem_cons, List.not_mem_nil, or_false] at hq
      rcases hq with rfl | rfl
      · exact r1
      · exact r2
    have hge := flat_ge hrg
    rw [← j4] at hge
    refine ⟨q1, q2, ⟨by rw [j4]; exact flat_by j2 hrg, ?_, ?_, ?_, (ofCh_put hu hq2).1, by omega, by dsimp only [List.length] at m2; omega⟩⟩
    · have := split_join [q1, q2] (out.length + 1) true (by dsimp only [List.length] at hge ⊢; omega) hrg j2 (fun _ => ⟨by simp, j3⟩)
      rw [← j4] at this; exact this
    · unfold cmpA at hq1
      split at hq1
      · rw [if_pos (by assumption)]; exact (ofSn_put (sndF_rg ho hn hx) hq1).1
      · rw [if_neg (by assumption)]; exact ofSn_kd (rcvR_kd hq1)
    · unfold cmpA at hq1
      split at hq1
      · rw [if_pos (by assumption)]; exact ofRc_kd (sndR_kd hq1)
      · rw [if_neg (by assumption)]; exact (ofRc_put ho.ss hx hq1).1
/-- What an outlet counts, packet upon packet. -/
def oN (ss : Int) (xs : List Sd) : Oo := xs.foldl (fun o x => o.sent x.q.pl.length x.q.tm x.now) (Oo.new ss)
theorem oN_snoc (ss : Int) (xs : List Sd) (x : Sd) : oN ss (xs ++ [x]) = (oN ss xs).sent x.q.pl.length x.q.tm x.now := by unfold oN; rw [List.foldl_append]; rfl
theorem oN_take (ss : Int) (xs : List Sd) (i : Nat) (h : i < xs.length) : oN ss (xs.take (i + 1)) = (oN ss (xs.take i)).sent xs[i].q.pl.length xs[i].q.tm xs[i].now := by
  rw [List.take_add_one, List.getElem?_eq_getElem h]; exact oN_snoc ss (xs.take i) xs[i]
theorem oN_rg {W : World} {L : List Blk} {ss : Int} (hs : U4 ss) {xs : List Sd} (hx : ∀ x, x ∈ xs → x.At W L) : ∀ i, i ≤ xs.length → (oN ss (xs.take i)).Rg ∧ (oN ss (xs.take i)).ss = ss ∧ (i ≤ 1000 → (oN ss (xs.take i)).pk = i)
  | 0, _ => ⟨Oo.new_rg hs, rfl, fun _ => rfl⟩
  | i + 1, hi => by
    obtain ⟨h1, h2, h3⟩ := oN_rg hs hx i (by omega)
    have hm := hx xs[i] (List.getElem_mem _)
    rw [oN_take ss xs i (by omega)]
    refine ⟨Oo.sent_rg h1 hm.tm hm.now, h2, fun hi2 => ?_⟩
    have := h3 (by omega)
    show ((oN ss (xs.take i)).pk + 1) % 18446744073709551616 = ((i + 1 : Nat) : Int)
    rw [this]; omega
end Go.Proofs.Ytogilblilljpmaa.X
/-
  ReportCounts: whatever went out, what an outlet counts and reports is the document's: a walk of my own.
-/
namespace Go.Proofs.Ytogilblilljpmaa.X
open Go Go.RowKit
set_option linter.unusedVariables false
set_option linter.unusedSimpArgs false
theorem ne_dec {p q : Prop} [Decidable p] [Decidable q] (h : p ↔ q) : (!(decide p == decide q)) = false := by simp [h]
theorem xg_ofSenderE {W : World} {L : List Blk} (y : Pb) (x : Sn) (e : Int) (hz : ofSn y.q = (x, e)) (hr : Rs W L y.p (ints .u8 y.q.bd)) (hg : y.q.Rg) (hc : y.q.bd.length ≤ y.c) (hn : y.q.bd.length ≤ 1000000) : XF Try.prog W 34 #[.agg y.enc.toArray] L (fun v L' => ∃ s k l, v = .tuple #[.agg (x.enc (.slice s x.bl.length k)).toArray, .int .i64 e] ∧ SlO 7 30 (.slice s x.bl.length k) x.bl.length (x.bl.flatMap Bk.enc) l ∧ L' = l ++ L) := by
  have := xf_ofSender y hr hg hc hn
  rwa [hz] at this
theorem xg_ofReceiverE {W : World} {L : List Blk} (y : Pb) (ss : Int) (bl : List Bk) (e : Int) (hz : ofRc y.q = ((ss, bl), e)) (hr : Rs W L y.p (ints .u8 y.q.bd)) (hg : y.q.Rg) (hc : y.q.bd.length ≤ y.c) (hn : y.q.bd.length ≤ 1000000) : XF Try.prog W 35 #[.agg y.enc.toArray] L (fun v L' => ∃ s k l, v = .tuple #[.agg #[.int .u32 ss, .slice s bl.length k], .int .i64 e] ∧ SlO 7 30 (.slice s bl.length k) bl.length (bl.flatMap Bk.enc) l ∧ L' = l ++ L) := by
  have := xf_ofReceiver y hr hg hc hn
  rwa [hz] at this
set_option maxHeartbeats 4000000 in
theorem counts0 {W : World} (ss : Int) (hs : U4 ss) (p : Option Addr) (n c : Nat) (xs : List Sd) (hx : xs.length = n) (hA : Rs W [] p (xs.flatMap Sd.enc)) (hE : ∀ x, x ∈ xs → x.At W []) (hn : n ≤ 9223372036854775807)
    (nm : ByteArray) (hnm : nm.size ≤ 9223372036854775807) (now : Int) (hnow : U8 now) (pb : Option Addr) (k cb : Nat) (bs : List Bk) (hb : bs.length = k) (hB : Rs W [] pb (bs.flatMap Bk.enc)) (hG : ∀ b, b ∈ bs → b.Rg) (hk : k ≤ 9223372036854775807) (hf : ¬ ((∀ x, x ∈ xs → x.few) ∧ n ≤ 40 ∧ k ≤ 40)) :
    XF Try.prog W 6 #[.int .u32 ss, .slice p n c, .string nm, .int .u64 now, .slice pb k cb] [] (fun v L' => v = .bool true) := by
  refine xf_enter (args := [_, _, _, _, _]) Try.func6 rfl Try.ntmps6 rfl ?_
  subst hx hb
  focus
    refine xc_seq ?_
    refine xc_region ?_
    refine xo_rd (rd_assign rfl) rfl ?_
    refine xo_nil ?_
    refine xq_seq ?_
    refine xc_seq ?_
    refine xc_seq ?_
    refine xc_region ?_
    refine xo_rd (rd_move rfl) rfl ?_
    refine xo_rd (rd_move rfl) rfl ?_
    refine xo_ef rfl (ef_call rfl (XF.mono (xf_few p xs.length c xs pb bs.length cb false (decide_eq_false hf) rfl hA hE hn hk) ?_))
    rintro v L' ⟨rfl, rfl⟩
    refine xo_rd (rd_not rfl) rfl ?_
    refine xo_rd (rd_move rfl) rfl ?_
    refine xo_gskip rfl rfl rfl rfl ?_
    refine xo_gskip rfl rfl rfl rfl ?_
    refine xo_gskip rfl rfl rfl rfl ?_
    refine xo_rd (rd_pickt rfl rfl) rfl ?_
    refine xo_nil ?_
    refine xq_seq ?_
    refine xc_condt rfl ?_
    refine xc_seq ?_
    refine xc_region ?_
    refine xo_ef rfl (ef_call rfl (XF.mono (xf_works) ?_))
    rintro v L' ⟨rfl, rfl⟩
    refine xo_rd (rd_assign rfl) rfl ?_
    refine xo_nil ?_
    refine xq_seq ?_
    refine xc_ret ?_
    refine xq_then_ret ?_
    exact xq_ret1 (.inl rfl) Try.results6 rfl (rfl)
set_option maxHeartbeats 4000000 in
theorem counts1 {W : World} (ss : Int) (hs : U4 ss) (p : Option Addr) (n c : Nat) (xs : List Sd) (hx : xs.length = n) (hA : Rs W [] p (xs.flatMap Sd.enc)) (hE : ∀ x, x ∈ xs → x.At W []) (hn : n ≤ 9223372036854775807)
    (nm : ByteArray) (hnm : nm.size ≤ 9223372036854775807) (now : Int) (hnow : U8 now) (pb : Option Addr) (k cb : Nat) (bs : List Bk) (hb : bs.length = k) (hB : Rs W [] pb (bs.flatMap Bk.enc)) (hG : ∀ b, b ∈ bs → b.Rg) (hk : k ≤ 9223372036854775807) (hf : (∀ x, x ∈ xs → x.few) ∧ n ≤ 40 ∧ k ≤ 40) :
    XF Try.prog W 6 #[.int .u32 ss, .slice p n c, .string nm, .int .u64 now, .slice pb k cb] [] (fun v L' => v = .bool true) := by
  refine xf_enter (args := [_, _, _, _, _]) Try.func6 rfl Try.ntmps6 rfl ?_
  subst hx hb
  have hB' : ∀ L, Rs W L pb (bs.flatMap Bk.enc) := fun L => hB.nilL
  obtain ⟨hf1, hf2, hf3⟩ := hf
  focus
    refine xc_seq ?_
    refine xc_region ?_
    refine xo_rd (rd_assign rfl) rfl ?_
    refine xo_nil ?_
    refine xq_seq ?_
    refine xc_seq ?_
    refine xc_seq ?_
    refine xc_region ?_
    refine xo_rd (rd_move rfl) rfl ?_
    refine xo_rd (rd_move rfl) rfl ?_
    refine xo_ef rfl (ef_call rfl (XF.mono (xf_few p xs.length c xs pb bs.length cb true (decide_eq_true ⟨hf1, hf2, hf3⟩) rfl hA hE hn hk) ?_))
    rintro v L' ⟨rfl, rfl⟩
    refine xo_rd (rd_not rfl) rfl ?_
    refine xo_rd (rd_move rfl) rfl ?_
    refine xo_grd rfl rfl (rd_move rfl) rfl ?_
    refine xo_grd rfl rfl (rd_lenStr rfl) rfl ?_
    refine xo_grd rfl rfl (rd_gtr rfl rfl) rfl ?_
    refine xo_rd (rd_pickf rfl rfl) rfl ?_
    refine xo_nil ?_
    refine xq_seq ?_
    refine xc_dec rfl (fun hz1 => ?_) (fun hz1 => ?_)
    refine xc_seq ?_
    refine xc_region ?_
    refine xo_ef rfl (ef_call rfl (XF.mono (xf_works) ?_))
    rintro v L' ⟨rfl, rfl⟩
    refine xo_rd (rd_assign rfl) rfl ?_
    refine xo_nil ?_
    refine xq_seq ?_
    refine xc_ret ?_
    refine xq_then_ret ?_
    exact xq_ret1 (.inl rfl) Try.results6 rfl (rfl)
    refine xc_skip ?_
    refine xq_seq ?_
    refine xc_seq ?_
    refine xc_region ?_
    refine xo_rd (rd_move rfl) rfl ?_
    refine xo_ef rfl (ef_call rfl (XF.mono (xf_newOutlet ss) ?_))
    rintro v L' ⟨b, rfl, rfl⟩
    refine xo_rd (rd_assign rfl) rfl ?_
    refine xo_nil ?_
    refine xq_seq ?_
    refine xc_seq ?_
    refine xc_region ?_
    refine xo_rd (rd_move rfl) rfl ?_
    refine xo_rd (rd_build rfl rfl rfl) rfl ?_
    refine xo_ef rfl (ef_alloc fun r12 => ?_)
    refine xo_ef rfl (ef_storeB [] _ rfl rfl (by first | rfl | assumption) rfl rfl rfl ?_)
    refine xo_nil ?_
    refine xq_seq ?_
    refine xc_seq ?_
    refine xc_seq ?_
    refine xc_region ?_
    refine xo_rd (rd_assign rfl) rfl ?_
    refine xo_nil ?_
    refine xq_seq ?_
    refine xc_block ?_
  refine xc_perm (L' := (oN ss (xs.take 0)).blk b :: (r12, .cells (oN ss (xs.take 0)).enc.toArray 67 (0, 0)) :: []) (List.Perm.swap _ _ _) ?_
  refine xc_loopI (ι := Nat) (fun i => i ≤ xs.length + 1) (fun i => xs.length + 1 - i) (fun i => (oN ss (xs.take i)).blk b :: (r12, .cells (oN ss (xs.take i)).enc.toArray 67 (0, 0)) :: []) (fun i => [(0, .int .u32 ss), (1, .slice p xs.length c), (2, .string nm), (3, .int .u64 now), (4, .slice pb bs.length cb), (11, .pointer (some ⟨b, 0, none⟩)), (12, .pointer (some ⟨r12, 0, none⟩)), (13, .int .i64 i)]) 0 (Nat.zero_le _) rfl (by repeat (first | exact keep_nil | refine keep_cons rfl ?_)) ?_
  intro i hi
  by_cases hin : i ≤ xs.length
  · obtain ⟨hoi, hos, hop⟩ := oN_rg hs hE i hin
    have hop := hop (by omega)
    have hnext : (hl : i < xs.length) → oN ss (xs.take (i + 1)) = (oN ss (xs.take i)).sent xs[i].q.pl.length xs[i].q.tm xs[i].now := fun hl => oN_take ss xs i hl
    have hlast : ¬ (i < xs.length) → oN ss (xs.take (i + 1)) = oN ss (xs.take i) := fun hl => by rw [List.take_of_length_le (by omega), List.take_of_length_le (by omega)]
    generalize oN ss (xs.take i) = o at *
    focus
      refine xc_seq ?_
      refine xc_seq ?_
      refine xc_region ?_
      refine xo_rd (rd_move rfl) rfl ?_
      refine xo_rd (rd_move rfl) rfl ?_
      refine xo_rd (rd_len rfl) rfl ?_
      refine xo_rd (rd_leq rfl rfl) rfl ?_
      refine xo_nil ?_
      refine xq_seq ?_
      refine xc_dec rfl (fun hz1 => ?_) (fun hz1 => (by exfalso; omega))
      refine xc_skip ?_
      refine xq_seq ?_
      refine xc_seq ?_
      refine xc_block ?_
      refine xc_seq ?_
      refine xc_region ?_
      refine xo_rd (rd_move rfl) rfl ?_
      refine xo_ef rfl (ef_call rfl (XF.mono (xf_totals b o) ?_))
      rintro v L' ⟨rfl, rfl⟩
      refine xo_rd (rd_move rfl) rfl ?_
      refine xo_rd (rd_extract rfl rfl) rfl ?_
      refine xo_rd (rd_extract rfl rfl) rfl ?_
      refine xo_rd (rd_assign rfl) rfl ?_
      refine xo_rd (rd_assign rfl) rfl ?_
      refine xo_nil ?_
      refine xq_seq ?_
      refine xc_seq ?_
      refine xc_seq ?_
      refine xc_drawML [0, 0, 2, 5, 8, 16, 16, 80, 176, 272, 528, 1024, 3072, 1024, 9216, 21504, 33792, 69632, 131072, 131072, 131072, 1966080, 131072, 131072, 131072, 19005440, 46268416, 69337088, 134348800, 268566528] [0, 0, 2, 5, 8, 16, 16, 80, 176, 272, 528, 1024, 3072, 1024, 9216, 21504, 33792, 69632, 131072, 131072, 131072, 1966080, 131072, 131072, 131072, 19005440, 46268416, 69337088, 134348800, 268566528] (by kernel_rfl) (by kernel_rfl) (by kernel_rfl) ?_
      refine xm_take 0 (m' := 1) rfl (by kernel_rfl) (by first | exact Sb.refl | exact Sb.nil | (repeat (first | exact Sb.nil | exact Sb.refl | exact Sb.app0 | apply Sb.keep | apply Sb.keepApp | apply Sb.cons | apply Sb.app))) (rd_move rfl) rfl (by kernel_rfl) ?_
      refine xm_take 1 (m' := 3) rfl (by kernel_rfl) (by first | exact Sb.refl | exact Sb.nil | (repeat (first | exact Sb.nil | exact Sb.refl | exact Sb.app0 | apply Sb.keep | apply Sb.keepApp | apply Sb.cons | apply Sb.app))) (rd_fieldAddr rfl) rfl (by kernel_rfl) ?_
      refine xm_take 2 (m' := 7) rfl (by kernel_rfl) (by first | exact Sb.refl | exact Sb.nil | (repeat (first | exact Sb.nil | exact Sb.refl | exact Sb.app0 | apply Sb.keep | apply Sb.keepApp | apply Sb.cons | apply Sb.app))) (rd_load1 rfl (Cl.o1 rfl)) rfl (by kernel_rfl) ?_
      refine xm_take 3 (m' := 15) rfl (by kernel_rfl) (by first | exact Sb.refl | exact Sb.nil | (repeat (first | exact Sb.nil | exact Sb.refl | exact Sb.app0 | apply Sb.keep | apply Sb.keepApp | apply Sb.cons | apply Sb.app))) (rd_cast (v' := .bool false) (rd_neq rfl rfl) (congrArg Value.bool (by rw [decide_eq_true rfl]; rfl))) rfl (by kernel_rfl) ?_
      refine xm_take 4 (m' := 31) rfl (by kernel_rfl) (by first | exact Sb.refl | exact Sb.nil | (repeat (first | exact Sb.nil | exact Sb.refl | exact Sb.app0 | apply Sb.keep | apply Sb.keepApp | apply Sb.cons | apply Sb.app))) (rd_move rfl) rfl (by kernel_rfl) ?_
      refine xm_gtake 5 (m' := 63) rfl (by kernel_rfl) (by first | exact Sb.refl | exact Sb.nil | (repeat (first | exact Sb.nil | exact Sb.refl | exact Sb.app0 | apply Sb.keep | apply Sb.keepApp | apply Sb.cons | apply Sb.app))) rfl rfl (rd_move rfl) rfl (by kernel_rfl) ?_
      refine xm_gtake 6 (m' := 127) rfl (by kernel_rfl) (by first | exact Sb.refl | exact Sb.nil | (repeat (first | exact Sb.nil | exact Sb.refl | exact Sb.app0 | apply Sb.keep | apply Sb.keepApp | apply Sb.cons | apply Sb.app))) rfl rfl (rd_fieldAddr rfl) rfl (by kernel_rfl) ?_
      refine xm_gtake 7 (m' := 255) rfl (by kernel_rfl) (by first | exact Sb.refl | exact Sb.nil | (repeat (first | exact Sb.nil | exact Sb.refl | exact Sb.app0 | apply Sb.keep | apply Sb.keepApp | apply Sb.cons | apply Sb.app))) rfl rfl (rd_load1 rfl (Cl.o1 rfl)) rfl (by kernel_rfl) ?_
      refine xm_gtake 8 (m' := 511) rfl (by kernel_rfl) (by first | exact Sb.refl | exact Sb.nil | (repeat (first | exact Sb.nil | exact Sb.refl | exact Sb.app0 | apply Sb.keep | apply Sb.keepApp | apply Sb.cons | apply Sb.app))) rfl rfl (rd_cast (v' := .bool false) (rd_neq rfl rfl) (congrArg Value.bool (by rw [decide_eq_true rfl]; rfl))) rfl (by kernel_rfl) ?_
      refine xm_take 9 (m' := 1023) rfl (by kernel_rfl) (by first | exact Sb.refl | exact Sb.nil | (repeat (first | exact Sb.nil | exact Sb.refl | exact Sb.app0 | apply Sb.keep | apply Sb.keepApp | apply Sb.cons | apply Sb.app))) (rd_pickf rfl rfl) rfl (by kernel_rfl) ?_
      refine xm_take 10 (m' := 2047) rfl (by kernel_rfl) (by first | exact Sb.refl | exact Sb.nil | (repeat (first | exact Sb.nil | exact Sb.refl | exact Sb.app0 | apply Sb.keep | apply Sb.keepApp | apply Sb.cons | apply Sb.app))) (rd_move rfl) rfl (by kernel_rfl) ?_
      refine xm_gtake 11 (m' := 4095) rfl (by kernel_rfl) (by first | exact Sb.refl | exact Sb.nil | (repeat (first | exact Sb.nil | exact Sb.refl | exact Sb.app0 | apply Sb.keep | apply Sb.keepApp | apply Sb.cons | apply Sb.app))) rfl rfl (rd_move rfl) rfl (by kernel_rfl) ?_
      refine xm_gtake 13 (m' := 12287) rfl (by kernel_rfl) (by first | exact Sb.refl | exact Sb.nil | (repeat (first | exact Sb.nil | exact Sb.refl | exact Sb.app0 | apply Sb.keep | apply Sb.keepApp | apply Sb.cons | apply Sb.app))) rfl rfl (rd_move rfl) rfl (by kernel_rfl) ?_
      refine xm_gtake 14 (m' := 28671) rfl (by kernel_rfl) (by first | exact Sb.refl | exact Sb.nil | (repeat (first | exact Sb.nil | exact Sb.refl | exact Sb.app0 | apply Sb.keep | apply Sb.keepApp | apply Sb.cons | apply Sb.app))) rfl rfl (rd_gtr rfl rfl) rfl (by kernel_rfl) ?_
      refine xm_gone 12 (m' := 32767) rfl (by kernel_rfl) rfl rfl rfl (by kernel_rfl) (ef_call rfl (XF.mono (xf_oany b o) ?_))
      rintro v L' ⟨rfl, rfl⟩
      refine ⟨(by first | exact Sb.refl | exact Sb.nil | (repeat (first | exact Sb.nil | exact Sb.refl | exact Sb.app0 | apply Sb.keep | apply Sb.keepApp | apply Sb.cons | apply Sb.app))), ?_⟩
      refine xm_gtake 15 (m' := 65535) rfl (by kernel_rfl) (by first | exact Sb.refl | exact Sb.nil | (repeat (first | exact Sb.nil | exact Sb.refl | exact Sb.app0 | apply Sb.keep | apply Sb.keepApp | apply Sb.cons | apply Sb.app))) rfl rfl (rd_cast (v' := .bool false) (rd_neb rfl rfl) (congrArg Value.bool (by rw [hop]; simp))) rfl (by kernel_rfl) ?_
      refine xm_take 16 (m' := 131071) rfl (by kernel_rfl) (by first | exact Sb.refl | exact Sb.nil | (repeat (first | exact Sb.nil | exact Sb.refl | exact Sb.app0 | apply Sb.keep | apply Sb.keepApp | apply Sb.cons | apply Sb.app))) (rd_pickf rfl rfl) rfl (by kernel_rfl) ?_
      refine xm_take 17 (m' := 262143) rfl (by kernel_rfl) (by first | exact Sb.refl | exact Sb.nil | (repeat (first | exact Sb.nil | exact Sb.refl | exact Sb.app0 | apply Sb.keep | apply Sb.keepApp | apply Sb.cons | apply Sb.app))) (rd_move rfl) rfl (by kernel_rfl) ?_
      refine xm_gtake 18 (m' := 524287) rfl (by kernel_rfl) (by first | exact Sb.refl | exact Sb.nil | (repeat (first | exact Sb.nil | exact Sb.refl | exact Sb.app0 | apply Sb.keep | apply Sb.keepApp | apply Sb.cons | apply Sb.app))) rfl rfl (rd_move rfl) rfl (by kernel_rfl) ?_
      refine xm_gtake 19 (m' := 1048575) rfl (by kernel_rfl) (by first | exact Sb.refl | exact Sb.nil | (repeat (first | exact Sb.nil | exact Sb.refl | exact Sb.app0 | apply Sb.keep | apply Sb.keepApp | apply Sb.cons | apply Sb.app))) rfl rfl (rd_move rfl) rfl (by kernel_rfl) ?_
      refine xm_gtake 20 (m' := 2097151) rfl (by kernel_rfl) (by first | exact Sb.refl | exact Sb.nil | (repeat (first | exact Sb.nil | exact Sb.refl | exact Sb.app0 | apply Sb.keep | apply Sb.keepApp | apply Sb.cons | apply Sb.app))) rfl rfl (rd_move rfl) rfl (by kernel_rfl) ?_
      refine xm_gtake 22 (m' := 6291455) rfl (by kernel_rfl) (by first | exact Sb.refl | exact Sb.nil | (repeat (first | exact Sb.nil | exact Sb.refl | exact Sb.app0 | apply Sb.keep | apply Sb.keepApp | apply Sb.cons | apply Sb.app))) rfl rfl (rd_loadB rfl Kn.o1 (by rfl)) rfl (by kernel_rfl) ?_
      refine xm_gtake 23 (m' := 14680063) rfl (by kernel_rfl) (by first | exact Sb.refl | exact Sb.nil | (repeat (first | exact Sb.nil | exact Sb.refl | exact Sb.app0 | apply Sb.keep | apply Sb.keepApp | apply Sb.cons | apply Sb.app))) rfl rfl (rd_move rfl) rfl (by kernel_rfl) ?_
      refine xm_gtake 24 (m' := 31457279) rfl (by kernel_rfl) (by first | exact Sb.refl | exact Sb.nil | (repeat (first | exact Sb.nil | exact Sb.refl | exact Sb.app0 | apply Sb.keep | apply Sb.keepApp | apply Sb.cons | apply Sb.app))) rfl rfl (rd_move rfl) rfl (by kernel_rfl) ?_
      refine xm_gone 21 (m' := 33554431) rfl (by kernel_rfl) rfl rfl rfl (by kernel_rfl) (ef_call rfl (XF.mono (xf_tell b o hoi now hnow pb bs.length cb bs rfl (hB' _) (by omega)) ?_))
      rintro v L' ⟨s1, k1, l1, rfl, hO1, rfl⟩
      refine xmx_seg [_, _] l1 _ ?_
      refine ⟨(by first | exact Sb.refl | exact Sb.nil | (repeat (first | exact Sb.nil | exact Sb.refl | exact Sb.app0 | apply Sb.keep | apply Sb.keepApp | apply Sb.cons | apply Sb.app))), ?_⟩
      refine xm_gone 25 (m' := 67108863) rfl (by kernel_rfl) rfl rfl rfl (by kernel_rfl) (ef_call rfl (XF.mono (xf_dBlocks pb bs.length cb bs rfl (hB' _) (by omega)) ?_))
      rintro v L' ⟨s2, k2, l2, rfl, hO2, rfl⟩
      refine ⟨(by first | exact Sb.refl | exact Sb.nil | (repeat (first | exact Sb.nil | exact Sb.refl | exact Sb.app0 | apply Sb.keep | apply Sb.keepApp | apply Sb.cons | apply Sb.app))), ?_⟩
      refine xm_gone 26 (m' := 134217727) rfl (by kernel_rfl) rfl rfl rfl (by kernel_rfl) (ef_call rfl (XF.mono (xf_rtell o hoi now hnow s2 bs.length k2 bs) ?_))
      rintro v L' ⟨rfl, rfl⟩
      refine ⟨(by first | exact Sb.refl | exact Sb.nil | (repeat (first | exact Sb.nil | exact Sb.refl | exact Sb.app0 | apply Sb.keep | apply Sb.keepApp | apply Sb.cons | apply Sb.app))), ?_⟩
      refine xm_gone 27 (m' := 268435455) rfl (by kernel_rfl) rfl rfl rfl (by kernel_rfl) (ef_call rfl (XF.mono (xf_sameSender (sndF o now bs) s1 s2 k1 k2 (hO1.rs (by intro z hz; simp [hz])) (hO2.rs (by intro z hz; simp [hz])) (by show bs.length ≤ 1000000; omega)) ?_))
      rintro v L' ⟨rfl, rfl⟩
      refine ⟨(by first | exact Sb.refl | exact Sb.nil | (repeat (first | exact Sb.nil | exact Sb.refl | exact Sb.app0 | apply Sb.keep | apply Sb.keepApp | apply Sb.cons | apply Sb.app))), ?_⟩
      refine xm_gtake 28 (m' := 536870911) rfl (by kernel_rfl) (by first | exact Sb.refl | exact Sb.nil | (repeat (first | exact Sb.nil | exact Sb.refl | exact Sb.app0 | apply Sb.keep | apply Sb.keepApp | apply Sb.cons | apply Sb.app))) rfl rfl (rd_not rfl) rfl (by kernel_rfl) ?_
      refine xm_take 29 (m' := 1073741823) rfl (by kernel_rfl) (by first | exact Sb.refl | exact Sb.nil | (repeat (first | exact Sb.nil | exact Sb.refl | exact Sb.app0 | apply Sb.keep | apply Sb.keepApp | apply Sb.cons | apply Sb.app))) (rd_pickf rfl rfl) rfl (by kernel_rfl) ?_
      refine xm_done (by kernel_rfl) ?_
      refine xq_seq ?_
      refine xc_condf rfl ?_
      refine xc_skip ?_
      refine xq_seq ?_
    refine xc_sb (M := o.blk b :: (r12, .cells o.enc.toArray 67 (0, 0)) :: []) (by first | exact Sb.refl | exact Sb.nil | (repeat (first | exact Sb.nil | exact Sb.refl | exact Sb.app0 | apply Sb.keep | apply Sb.keepApp | apply Sb.cons | apply Sb.app))) ?_
    by_cases hl : i < xs.length
    · obtain ⟨bp, op, hp, hc1⟩ := hA.rows Sd.len (by decide) (by omega)
      subst hp
      have hci := hc1 i (by omega)
      have hm : xs[i] ∈ xs := List.getElem_mem _
      have hE' := hE _ hm
      have hf' := hf1 _ hm
      have hnext := hnext hl
      generalize xs[i] = x at *
      have hcI : ∀ (L : List Blk) (j : Nat) (u : Value), x.pe[j]? = some u → Cl W L bp (op + (i : Int).toNat * 12 + j) u := fun L j u hj => (hci j u (by unfold Sd.enc; rw [List.getElem?_append_left (List.getElem?_eq_some_iff.1 hj).1]; exact hj)).mono fun _ h => by cases h
      have hcN : ∀ (L : List Blk), Cl W L bp (op + (i : Int).toNat * 12 + 11) (.int .u64 x.now) := fun L => (hci 11 _ rfl).mono fun _ h => by cases h
      have h40 : x.q.pl.length ≤ 1000000 := by have := hf'.2.2; omega
      focus
        refine xc_seq ?_
        refine xc_region ?_
        refine xo_rd (rd_move rfl) rfl ?_
        refine xo_rd (rd_move rfl) rfl ?_
        refine xo_rd (rd_len rfl) rfl ?_
        refine xo_rd (rd_lss rfl rfl) rfl ?_
        refine xo_nil ?_
        refine xq_seq ?_
        refine xc_dec rfl (fun hz1 => ?_) (fun hz1 => (by exfalso; omega))
        refine xc_seq ?_
        refine xc_drawM [0, 0, 0, 6, 8, 16, 0, 0, 192, 256, 512, 1057] [0, 0, 0, 6, 8, 16, 0, 0, 192, 256, 512, 1057] [] (by kernel_rfl) (by kernel_rfl) (by kernel_rfl) ?_
        refine xm_take 0 (m' := 1) rfl (by kernel_rfl) (by first | exact Sb.refl | exact Sb.nil | (repeat (first | exact Sb.nil | exact Sb.refl | exact Sb.app0 | apply Sb.keep | apply Sb.keepApp | apply Sb.cons | apply Sb.app))) (rd_move rfl) rfl (by kernel_rfl) ?_
        refine xm_take 1 (m' := 3) rfl (by kernel_rfl) (by first | exact Sb.refl | exact Sb.nil | (repeat (first | exact Sb.nil | exact Sb.refl | exact Sb.app0 | apply Sb.keep | apply Sb.keepApp | apply Sb.cons | apply Sb.app))) (rd_move rfl) rfl (by kernel_rfl) ?_
        refine xm_take 2 (m' := 7) rfl (by kernel_rfl) (by first | exact Sb.refl | exact Sb.nil | (repeat (first | exact Sb.nil | exact Sb.refl | exact Sb.app0 | apply Sb.keep | apply Sb.keepApp | apply Sb.cons | apply Sb.app))) (rd_move rfl) rfl (by kernel_rfl) ?_
        refine xm_take 3 (m' := 15) rfl (by kernel_rfl) (by first | exact Sb.refl | exact Sb.nil | (repeat (first | exact Sb.nil | exact Sb.refl | exact Sb.app0 | apply Sb.keep | apply Sb.keepApp | apply Sb.cons | apply Sb.app))) (rd_indexAddr rfl rfl (by omega) (by omega)) rfl (by kernel_rfl) ?_
        refine xm_take 4 (m' := 31) rfl (by kernel_rfl) (by first | exact Sb.refl | exact Sb.nil | (repeat (first | exact Sb.nil | exact Sb.refl | exact Sb.app0 | apply Sb.keep | apply Sb.keepApp | apply Sb.cons | apply Sb.app))) (rd_fieldAddr rfl) rfl (by kernel_rfl) ?_
        refine xm_take 5 (m' := 63) rfl (by kernel_rfl) (by first | exact Sb.refl | exact Sb.nil | (repeat (first | exact Sb.nil | exact Sb.refl | exact Sb.app0 | apply Sb.keep | apply Sb.keepApp | apply Sb.cons | apply Sb.app))) (rd_loadA (vs := x.pe) rfl rfl (hcI _)) rfl (by kernel_rfl) ?_
        refine xm_take 6 (m' := 127) rfl (by kernel_rfl) (by first | exact Sb.refl | exact Sb.nil | (repeat (first | exact Sb.nil | exact Sb.refl | exact Sb.app0 | apply Sb.keep | apply Sb.keepApp | apply Sb.cons | apply Sb.app))) (rd_move rfl) rfl (by kernel_rfl) ?_
        refine xm_take 7 (m' := 255) rfl (by kernel_rfl) (by first | exact Sb.refl | exact Sb.nil | (repeat (first | exact Sb.nil | exact Sb.refl | exact Sb.app0 | apply Sb.keep | apply Sb.keepApp | apply Sb.cons | apply Sb.app))) (rd_move rfl) rfl (by kernel_rfl) ?_
        refine xm_take 8 (m' := 511) rfl (by kernel_rfl) (by first | exact Sb.refl | exact Sb.nil | (repeat (first | exact Sb.nil | exact Sb.refl | exact Sb.app0 | apply Sb.keep | apply Sb.keepApp | apply Sb.cons | apply Sb.app))) (rd_indexAddr rfl rfl (by omega) (by omega)) rfl (by kernel_rfl) ?_
        refine xm_take 9 (m' := 1023) rfl (by kernel_rfl) (by first | exact Sb.refl | exact Sb.nil | (repeat (first | exact Sb.nil | exact Sb.refl | exact Sb.app0 | apply Sb.keep | apply Sb.keepApp | apply Sb.cons | apply Sb.app))) (rd_fieldAddr rfl) rfl (by kernel_rfl) ?_
        refine xm_take 10 (m' := 2047) rfl (by kernel_rfl) (by first | exact Sb.refl | exact Sb.nil | (repeat (first | exact Sb.nil | exact Sb.refl | exact Sb.app0 | apply Sb.keep | apply Sb.keepApp | apply Sb.cons | apply Sb.app))) (rd_load1 rfl (hcN _)) rfl (by kernel_rfl) ?_
        refine xm_one 11 (m' := 4095) rfl (by kernel_rfl) rfl (by kernel_rfl) (ef_call rfl (XF.mono (xf_sent b o hoi _ _ _ _ _ _ _ _ _ x.q.tm x.p3 x.q.pl.length x.c3 h40 x.now) ?_))
        rintro v L' ⟨rfl, rfl⟩
        refine ⟨(by first | exact Sb.refl | exact Sb.nil | (repeat (first | exact Sb.nil | exact Sb.refl | exact Sb.app0 | apply Sb.keep | apply Sb.keepApp | apply Sb.cons | apply Sb.app))), ?_⟩
        refine xm_done (by kernel_rfl) ?_
        refine xq_seq ?_
        refine xc_drawM [0, 0, 0, 6, 8, 16, 32, 0, 0, 384, 512, 1024, 2113, 8191] [0, 0, 0, 6, 8, 16, 32, 0, 0, 384, 512, 1024, 2113, 8191] [] (by kernel_rfl) (by kernel_rfl) (by kernel_rfl) ?_
        refine xm_take 1 (m' := 2) rfl (by kernel_rfl) (by first | exact Sb.refl | exact Sb.nil | (repeat (first | exact Sb.nil | exact Sb.refl | exact Sb.app0 | apply Sb.keep | apply Sb.keepApp | apply Sb.cons | apply Sb.app))) (rd_move rfl) rfl (by kernel_rfl) ?_
        refine xm_take 2 (m' := 6) rfl (by kernel_rfl) (by first | exact Sb.refl | exact Sb.nil | (repeat (first | exact Sb.nil | exact Sb.refl | exact Sb.app0 | apply Sb.keep | apply Sb.keepApp | apply Sb.cons | apply Sb.app))) (rd_move rfl) rfl (by kernel_rfl) ?_
        refine xm_take 3 (m' := 14) rfl (by kernel_rfl) (by first | exact Sb.refl | exact Sb.nil | (repeat (first | exact Sb.nil | exact Sb.refl | exact Sb.app0 | apply Sb.keep | apply Sb.keepApp | apply Sb.cons | apply Sb.app))) (rd_indexAddr rfl rfl (by omega) (by omega)) rfl (by kernel_rfl) ?_
        refine xm_take 4 (m' := 30) rfl (by kernel_rfl) (by first | exact Sb.refl | exact Sb.nil | (repeat (first | exact Sb.nil | exact Sb.refl | exact Sb.app0 | apply Sb.keep | apply Sb.keepApp | apply Sb.cons | apply Sb.app))) (rd_fieldAddr rfl) rfl (by kernel_rfl) ?_
        refine xm_take 5 (m' := 62) rfl (by kernel_rfl) (by first | exact Sb.refl | exact Sb.nil | (repeat (first | exact Sb.nil | exact Sb.refl | exact Sb.app0 | apply Sb.keep | apply Sb.keepApp | apply Sb.cons | apply Sb.app))) (rd_loadA (vs := x.pe) rfl rfl (hcI _)) rfl (by kernel_rfl) ?_
        refine xm_take 7 (m' := 190) rfl (by kernel_rfl) (by first | exact Sb.refl | exact Sb.nil | (repeat (first | exact Sb.nil | exact Sb.refl | exact Sb.app0 | apply Sb.keep | apply Sb.keepApp | apply Sb.cons | apply Sb.app))) (rd_move rfl) rfl (by kernel_rfl) ?_
        refine xm_take 8 (m' := 446) rfl (by kernel_rfl) (by first | exact Sb.refl | exact Sb.nil | (repeat (first | exact Sb.nil | exact Sb.refl | exact Sb.app0 | apply Sb.keep | apply Sb.keepApp | apply Sb.cons | apply Sb.app))) (rd_move rfl) rfl (by kernel_rfl) ?_
        refine xm_take 9 (m' := 958) rfl (by kernel_rfl) (by first | exact Sb.refl | exact Sb.nil | (repeat (first | exact Sb.nil | exact Sb.refl | exact Sb.app0 | apply Sb.keep | apply Sb.keepApp | apply Sb.cons | apply Sb.app))) (rd_indexAddr rfl rfl (by omega) (by omega)) rfl (by kernel_rfl) ?_
        refine xm_take 10 (m' := 1982) rfl (by kernel_rfl) (by first | exact Sb.refl | exact Sb.nil | (repeat (first | exact Sb.nil | exact Sb.refl | exact Sb.app0 | apply Sb.keep | apply Sb.keepApp | apply Sb.cons | apply Sb.app))) (rd_fieldAddr rfl) rfl (by kernel_rfl) ?_
        refine xm_take 11 (m' := 4030) rfl (by kernel_rfl) (by first | exact Sb.refl | exact Sb.nil | (repeat (first | exact Sb.nil | exact Sb.refl | exact Sb.app0 | apply Sb.keep | apply Sb.keepApp | apply Sb.cons | apply Sb.app))) (rd_load1 rfl (hcN _)) rfl (by kernel_rfl) ?_
        refine xm_two 0 6 (mi := 4031) (mk := 4094) rfl rfl (by kernel_rfl) rfl rfl (by kernel_rfl) (by kernel_rfl) (ef_rd (rd_loadB rfl Kn.o1 (by rfl)) ⟨(by first | exact Sb.refl | exact Sb.nil | (repeat (first | exact Sb.nil | exact Sb.refl | exact Sb.app0 | apply Sb.keep | apply Sb.keepApp | apply Sb.cons | apply Sb.app))), ?_⟩) (ef_call rfl (XF.mono (xf_dPacket x (hE'.mono (fun _ h => by cases h)) hf') ?_))
        rotate_left
        rintro v L' ⟨w1, w2, pq, kq, lq, rfl, rfl⟩
        refine xmx_seg [_, _] lq _ ?_
        refine ⟨(by first | exact Sb.refl | exact Sb.nil | (repeat (first | exact Sb.nil | exact Sb.refl | exact Sb.app0 | apply Sb.keep | apply Sb.keepApp | apply Sb.cons | apply Sb.app))), ?_⟩
        rotate_right
        refine xm_one 6 (m' := 4095) rfl (by kernel_rfl) rfl (by kernel_rfl) (ef_call rfl (XF.mono (xf_dPacket x (hE'.mono (fun _ h => by cases h)) hf') ?_))
        rintro v L' ⟨w1, w2, pq, kq, lq, rfl, rfl⟩
        refine xmx_seg [_, _] lq _ ?_
        refine ⟨(by first | exact Sb.refl | exact Sb.nil | (repeat (first | exact Sb.nil | exact Sb.refl | exact Sb.app0 | apply Sb.keep | apply Sb.keepApp | apply Sb.cons | apply Sb.app))), ?_⟩
        refine xm_one 12 (m' := 8191) rfl (by kernel_rfl) rfl (by kernel_rfl) (ef_call rfl (XF.mono (xf_rsent o _ _ _ _ _ _ _ _ _ x.q.tm pq x.q.pl.length kq h40 x.now) ?_))
        rintro v L' ⟨rfl, rfl⟩
        refine ⟨(by first | exact Sb.refl | exact Sb.nil | (repeat (first | exact Sb.nil | exact Sb.refl | exact Sb.app0 | apply Sb.keep | apply Sb.keepApp | apply Sb.cons | apply Sb.app))), ?_⟩
        refine xm_one 13 (m' := 16383) rfl (by kernel_rfl) rfl (by kernel_rfl) (ef_storeB [_] _ rfl rfl (by first | rfl | assumption) rfl rfl rfl ?_)
        refine ⟨(by first | exact Sb.refl | exact Sb.nil | (repeat (first | exact Sb.nil | exact Sb.refl | exact Sb.app0 | apply Sb.keep | apply Sb.keepApp | apply Sb.cons | apply Sb.app))), ?_⟩
        refine xm_done (by kernel_rfl) ?_
        refine xq_block ?_
        refine xq_seq ?_
        refine xc_region ?_
        refine xo_rd (rd_move rfl) rfl ?_
        refine xo_rd (rd_addn rfl rfl (by omega) (by omega)) rfl ?_
        refine xo_rd (rd_assign rfl) rfl ?_
        refine xo_nil ?_
        rotate_left
        refine xm_one 0 (m' := 4095) rfl (by kernel_rfl) rfl (by kernel_rfl) (ef_rd (rd_loadB rfl Kn.o1 (by rfl)) ?_)
        refine ⟨(by first | exact Sb.refl | exact Sb.nil | (repeat (first | exact Sb.nil | exact Sb.refl | exact Sb.app0 | apply Sb.keep | apply Sb.keepApp | apply Sb.cons | apply Sb.app))), ?_⟩
        refine xm_one 12 (m' := 8191) rfl (by kernel_rfl) rfl (by kernel_rfl) (ef_call rfl (XF.mono (xf_rsent o _ _ _ _ _ _ _ _ _ x.q.tm pq x.q.pl.length kq h40 x.now) ?_))
        rintro v L' ⟨rfl, rfl⟩
        refine ⟨(by first | exact Sb.refl | exact Sb.nil | (repeat (first | exact Sb.nil | exact Sb.refl | exact Sb.app0 | apply Sb.keep | apply Sb.keepApp | apply Sb.cons | apply Sb.app))), ?_⟩
        refine xm_one 13 (m' := 16383) rfl (by kernel_rfl) rfl (by kernel_rfl) (ef_storeB [_] _ rfl rfl (by first | rfl | assumption) rfl rfl rfl ?_)
        refine ⟨(by first | exact Sb.refl | exact Sb.nil | (repeat (first | exact Sb.nil | exact Sb.refl | exact Sb.app0 | apply Sb.keep | apply Sb.keepApp | apply Sb.cons | apply Sb.app))), ?_⟩
        refine xm_done (by kernel_rfl) ?_
        refine xq_block ?_
        refine xq_seq ?_
        refine xc_region ?_
        refine xo_rd (rd_move rfl) rfl ?_
        refine xo_rd (rd_addn rfl rfl (by omega) (by omega)) rfl ?_
        refine xo_rd (rd_assign rfl) rfl ?_
        refine xo_nil ?_
        rotate_left
      all_goals exact xq_sb (M := (o.sent x.q.pl.length x.q.tm x.now).blk b :: (r12, .cells (o.sent x.q.pl.length x.q.tm x.now).enc.toArray 67 (0, 0)) :: []) (by first | exact Sb.refl | exact Sb.nil | (repeat (first | exact Sb.nil | exact Sb.refl | exact Sb.app0 | apply Sb.keep | apply Sb.keepApp | apply Sb.cons | apply Sb.app))) (xq_roundI (i + 1) (by omega) (by omega) (by rw [hnext]) (by repeat (first | exact keep_nil | refine keep_cons rfl ?_)))
    · focus
        refine xc_seq ?_
        refine xc_region ?_
        refine xo_rd (rd_move rfl) rfl ?_
        refine xo_rd (rd_move rfl) rfl ?_
        refine xo_rd (rd_len rfl) rfl ?_
        refine xo_rd (rd_lss rfl rfl) rfl ?_
        refine xo_nil ?_
        refine xq_seq ?_
        refine xc_dec rfl (fun hz1 => (by exfalso; omega)) (fun hz1 => ?_)
        refine xc_skip ?_
        refine xq_block ?_
        refine xq_seq ?_
        refine xc_region ?_
        refine xo_rd (rd_move rfl) rfl ?_
        refine xo_rd (rd_addn rfl rfl (by omega) (by omega)) rfl ?_
        refine xo_rd (rd_assign rfl) rfl ?_
        refine xo_nil ?_
      exact xq_sb (M := _) (by first | exact Sb.refl | exact Sb.nil | (repeat (first | exact Sb.nil | exact Sb.refl | exact Sb.app0 | apply Sb.keep | apply Sb.keepApp | apply Sb.cons | apply Sb.app))) (xq_roundI (i + 1) (by omega) (by omega) (by rw [hlast hl]) (by repeat (first | exact keep_nil | refine keep_cons rfl ?_)))
  · have hi' : i = xs.length + 1 := by omega
    subst hi'
    obtain ⟨hoi, hos, hop⟩ := oN_rg hs hE xs.length (Nat.le_refl _)
    have hop := hop (by omega)
    rw [List.take_of_length_le (by omega)]
    rw [List.take_of_length_le (Nat.le_refl _)] at hoi hos hop
    generalize oN ss xs = o at *
    subst hos
    obtain ⟨⟨out, e⟩, hz⟩ : ∃ z, cmpF o now nm bs = z := ⟨_, rfl⟩
    have hol : out.length ≤ 1000000 := by have := cmpF_len (nm := nm) hoi hnow hG (by omega); rw [hz] at this; exact this
    by_cases he : ¬ e = 0
    · focus
        refine xc_seq ?_
        refine xc_seq ?_
        refine xc_region ?_
        refine xo_rd (rd_move rfl) rfl ?_
        refine xo_rd (rd_move rfl) rfl ?_
        refine xo_rd (rd_len rfl) rfl ?_
        refine xo_rd (rd_leq rfl rfl) rfl ?_
        refine xo_nil ?_
        refine xq_seq ?_
        refine xc_dec rfl (fun h1 => (by exfalso; omega)) (fun h1 => ?_)
        refine xc_exit ?_
        refine xq_then_exit ?_
        refine xq_then_exit ?_
        refine xq_block_hit ?_
        refine xq_seq ?_
        refine xc_seq ?_
        refine xc_region ?_
        refine xo_rd (rd_move rfl) rfl ?_
        refine xo_rd (rd_move rfl) rfl ?_
        refine xo_rd (rd_move rfl) rfl ?_
        refine xo_rd (rd_move rfl) rfl ?_
        refine xo_ef rfl (ef_call rfl (XF.mono (xg_compound b o hoi nm now hnow pb bs.length cb bs out _ hz rfl (hB' _) hG (by omega)) ?_))
        rintro v L' ⟨s3, k3, l3, rfl, hO3, rfl⟩
        refine xo_seg [_, _] l3 _ ?_
        refine xo_rd (rd_move rfl) rfl ?_
        refine xo_rd (rd_extract rfl rfl) rfl ?_
        refine xo_rd (rd_extract rfl rfl) rfl ?_
        refine xo_rd (rd_assign rfl) rfl ?_
        refine xo_rd (rd_assign rfl) rfl ?_
        refine xo_nil ?_
        refine xq_seq ?_
        refine xc_seq ?_
        refine xc_drawML [0, 0, 0, 0, 8, 23, 32, 64, 64, 255, 1023] [0, 0, 0, 0, 8, 23, 32, 64, 64, 255, 1023] (by kernel_rfl) (by kernel_rfl) (by kernel_rfl) ?_
        refine xm_take 0 (m' := 1) rfl (by kernel_rfl) (by first | exact Sb.refl | exact Sb.nil | (repeat (first | exact Sb.nil | exact Sb.refl | exact Sb.app0 | apply Sb.keep | apply Sb.keepApp | apply Sb.cons | apply Sb.app))) (rd_loadB rfl Kn.o1 (by rfl)) rfl (by kernel_rfl) ?_
        refine xm_take 1 (m' := 3) rfl (by kernel_rfl) (by first | exact Sb.refl | exact Sb.nil | (repeat (first | exact Sb.nil | exact Sb.refl | exact Sb.app0 | apply Sb.keep | apply Sb.keepApp | apply Sb.cons | apply Sb.app))) (rd_move rfl) rfl (by kernel_rfl) ?_
        refine xm_take 2 (m' := 7) rfl (by kernel_rfl) (by first | exact Sb.refl | exact Sb.nil | (repeat (first | exact Sb.nil | exact Sb.refl | exact Sb.app0 | apply Sb.keep | apply Sb.keepApp | apply Sb.cons | apply Sb.app))) (rd_move rfl) rfl (by kernel_rfl) ?_
        refine xm_take 3 (m' := 15) rfl (by kernel_rfl) (by first | exact Sb.refl | exact Sb.nil | (repeat (first | exact Sb.nil | exact Sb.refl | exact Sb.app0 | apply Sb.keep | apply Sb.keepApp | apply Sb.cons | apply Sb.app))) (rd_move rfl) rfl (by kernel_rfl) ?_
        refine xm_one 4 (m' := 31) rfl (by kernel_rfl) rfl (by kernel_rfl) (ef_call rfl (XF.mono (xf_dBlocks pb bs.length cb bs rfl (hB' _) (by omega)) ?_))
        rintro v L' ⟨s4, k4, l4, rfl, hO4, rfl⟩
        refine xmx_seg [_, _] l4 _ ?_
        refine ⟨(by first | exact Sb.refl | exact Sb.nil | (repeat (first | exact Sb.nil | exact Sb.refl | exact Sb.app0 | apply Sb.keep | apply Sb.keepApp | apply Sb.cons | apply Sb.app))), ?_⟩
        refine xm_one 5 (m' := 63) rfl (by kernel_rfl) rfl (by kernel_rfl) (ef_call rfl (XF.mono (xg_rcompound o hoi nm now hnow s4 bs.length k4 bs out _ hz rfl (hO4.rs (by intro z hz; simp [hz])) hG (by omega)) ?_))
        rintro v L' ⟨s5, k5, l5, rfl, hO5, rfl⟩
        refine xmx_seg [_, _] l5 _ ?_
        refine ⟨(by first | exact Sb.refl | exact Sb.nil | (repeat (first | exact Sb.nil | exact Sb.refl | exact Sb.app0 | apply Sb.keep | apply Sb.keepApp | apply Sb.cons | apply Sb.app))), ?_⟩
        refine xm_take 6 (m' := 127) rfl (by kernel_rfl) (by first | exact Sb.refl | exact Sb.nil | (repeat (first | exact Sb.nil | exact Sb.refl | exact Sb.app0 | apply Sb.keep | apply Sb.keepApp | apply Sb.cons | apply Sb.app))) (rd_move rfl) rfl (by kernel_rfl) ?_
        refine xm_take 7 (m' := 255) rfl (by kernel_rfl) (by first | exact Sb.refl | exact Sb.nil | (repeat (first | exact Sb.nil | exact Sb.refl | exact Sb.app0 | apply Sb.keep | apply Sb.keepApp | apply Sb.cons | apply Sb.app))) (rd_extract rfl rfl) rfl (by kernel_rfl) ?_
        refine xm_take 8 (m' := 511) rfl (by kernel_rfl) (by first | exact Sb.refl | exact Sb.nil | (repeat (first | exact Sb.nil | exact Sb.refl | exact Sb.app0 | apply Sb.keep | apply Sb.keepApp | apply Sb.cons | apply Sb.app))) (rd_extract rfl rfl) rfl (by kernel_rfl) ?_
        refine xm_take 9 (m' := 1023) rfl (by kernel_rfl) (by first | exact Sb.refl | exact Sb.nil | (repeat (first | exact Sb.nil | exact Sb.refl | exact Sb.app0 | apply Sb.keep | apply Sb.keepApp | apply Sb.cons | apply Sb.app))) (rd_assign rfl) rfl (by kernel_rfl) ?_
        refine xm_take 10 (m' := 2047) rfl (by kernel_rfl) (by first | exact Sb.refl | exact Sb.nil | (repeat (first | exact Sb.nil | exact Sb.refl | exact Sb.app0 | apply Sb.keep | apply Sb.keepApp | apply Sb.cons | apply Sb.app))) (rd_assign rfl) rfl (by kernel_rfl) ?_
        refine xm_done (by kernel_rfl) ?_
        refine xq_seq ?_
        refine xc_seq ?_
        refine xc_seq ?_
        refine xc_region ?_
        refine xo_rd (rd_move rfl) rfl ?_
        refine xo_rd (rd_move rfl) rfl ?_
        refine xo_rd (rd_cast (v' := .bool false) (rd_neq rfl rfl) (congrArg Value.bool (by rw [decide_eq_true rfl]; rfl))) rfl ?_
        refine xo_rd (rd_move rfl) rfl ?_
        refine xo_grd rfl rfl (rd_move rfl) rfl ?_
        refine xo_grd rfl rfl (rd_move rfl) rfl ?_
        refine xo_gef rfl rfl rfl (ef_call rfl (XF.mono (xf_samebytesT s3 s5 out.length out.length k3 k5 out out rfl rfl rfl (hO3.rs (by intro z hz; simp [hz])) (hO5.rs (by intro z hz; simp [hz])) (by omega)) ?_))
        rintro v L' ⟨rfl, rfl⟩
        refine xo_grd rfl rfl (rd_not rfl) rfl ?_
        refine xo_rd (rd_pickf rfl rfl) rfl ?_
        refine xo_nil ?_
        refine xq_seq ?_
        refine xc_condf rfl ?_
        refine xc_skip ?_
        refine xq_seq ?_
        refine xc_seq ?_
        refine xc_seq ?_
        refine xc_region ?_
        refine xo_rd (rd_move rfl) rfl ?_
        refine xo_rd (rd_neq rfl rfl) rfl ?_
        refine xo_nil ?_
        refine xq_seq ?_
        refine xc_ndec rfl (fun h2 => ?_) (fun h2 => (by exfalso; omega))
        refine xc_seq ?_
        refine xc_region ?_
        refine xo_ef rfl (ef_call rfl (XF.mono (xf_works) ?_))
        rintro v L' ⟨rfl, rfl⟩
        refine xo_rd (rd_assign rfl) rfl ?_
        refine xo_nil ?_
        refine xq_seq ?_
        refine xc_ret ?_
        refine xq_then_ret ?_
        exact xq_ret1 (.inl rfl) Try.results6 rfl (rfl)
    · have he : e = 0 := by omega
      subst he
      obtain ⟨q1, q2, ht⟩ := told hoi hnow hG (by omega) hz
      focus
        refine xc_seq ?_
        refine xc_seq ?_
        refine xc_region ?_
        refine xo_rd (rd_move rfl) rfl ?_
        refine xo_rd (rd_move rfl) rfl ?_
        refine xo_rd (rd_len rfl) rfl ?_
        refine xo_rd (rd_leq rfl rfl) rfl ?_
        refine xo_nil ?_
        refine xq_seq ?_
        refine xc_dec rfl (fun hq1 => (by exfalso; omega)) (fun hq1 => ?_)
        refine xc_exit ?_
        refine xq_then_exit ?_
        refine xq_then_exit ?_
        refine xq_block_hit ?_
        refine xq_seq ?_
        refine xc_seq ?_
        refine xc_region ?_
        refine xo_rd (rd_move rfl) rfl ?_
        refine xo_rd (rd_move rfl) rfl ?_
        refine xo_rd (rd_move rfl) rfl ?_
        refine xo_rd (rd_move rfl) rfl ?_
        refine xo_ef rfl (ef_call rfl (XF.mono (xg_compound b o hoi nm now hnow pb bs.length cb bs out _ hz rfl (hB' _) hG (by omega)) ?_))
        rintro v L' ⟨s3, k3, l3, rfl, hO3, rfl⟩
        refine xo_seg [_, _] l3 _ ?_
        refine xo_rd (rd_move rfl) rfl ?_
        refine xo_rd (rd_extract rfl rfl) rfl ?_
        refine xo_rd (rd_extract rfl rfl) rfl ?_
        refine xo_rd (rd_assign rfl) rfl ?_
        refine xo_rd (rd_assign rfl) rfl ?_
        refine xo_nil ?_
        refine xq_seq ?_
        refine xc_seq ?_
        refine xc_drawML [0, 0, 0, 0, 8, 23, 32, 64, 64, 255, 1023] [0, 0, 0, 0, 8, 23, 32, 64, 64, 255, 1023] (by kernel_rfl) (by kernel_rfl) (by kernel_rfl) ?_
        refine xm_take 0 (m' := 1) rfl (by kernel_rfl) (by first | exact Sb.refl | exact Sb.nil | (repeat (first | exact Sb.nil | exact Sb.refl | exact Sb.app0 | apply Sb.keep | apply Sb.keepApp | apply Sb.cons | apply Sb.app))) (rd_loadB rfl Kn.o1 (by rfl)) rfl (by kernel_rfl) ?_
        refine xm_take 1 (m' := 3) rfl (by kernel_rfl) (by first | exact Sb.refl | exact Sb.nil | (repeat (first | exact Sb.nil | exact Sb.refl | exact Sb.app0 | apply Sb.keep | apply Sb.keepApp | apply Sb.cons | apply Sb.app))) (rd_move rfl) rfl (by kernel_rfl) ?_
        refine xm_take 2 (m' := 7) rfl (by kernel_rfl) (by first | exact Sb.refl | exact Sb.nil | (repeat (first | exact Sb.nil | exact Sb.refl | exact Sb.app0 | apply Sb.keep | apply Sb.keepApp | apply Sb.cons | apply Sb.app))) (rd_move rfl) rfl (by kernel_rfl) ?_
        refine xm_take 3 (m' := 15) rfl (by kernel_rfl) (by first | exact Sb.refl | exact Sb.nil | (repeat (first | exact Sb.nil | exact Sb.refl | exact Sb.app0 | apply Sb.keep | apply Sb.keepApp | apply Sb.cons | apply Sb.app))) (rd_move rfl) rfl (by kernel_rfl) ?_
        refine xm_one 4 (m' := 31) rfl (by kernel_rfl) rfl (by kernel_rfl) (ef_call rfl (XF.mono (xf_dBlocks pb bs.length cb bs rfl (hB' _) (by omega)) ?_))
        rintro v L' ⟨s4, k4, l4, rfl, hO4, rfl⟩
        refine xmx_seg [_, _] l4 _ ?_
        refine ⟨(by first | exact Sb.refl | exact Sb.nil | (repeat (first | exact Sb.nil | exact Sb.refl | exact Sb.app0 | apply Sb.keep | apply Sb.keepApp | apply Sb.cons | apply Sb.app))), ?_⟩
        refine xm_one 5 (m' := 63) rfl (by kernel_rfl) rfl (by kernel_rfl) (ef_call rfl (XF.mono (xg_rcompound o hoi nm now hnow s4 bs.length k4 bs out _ hz rfl (hO4.rs (by intro z hz; simp [hz])) hG (by omega)) ?_))
        rintro v L' ⟨s5, k5, l5, rfl, hO5, rfl⟩
        refine xmx_seg [_, _] l5 _ ?_
        refine ⟨(by first | exact Sb.refl | exact Sb.nil | (repeat (first | exact Sb.nil | exact Sb.refl | exact Sb.app0 | apply Sb.keep | apply Sb.keepApp | apply Sb.cons | apply Sb.app))), ?_⟩
        refine xm_take 6 (m' := 127) rfl (by kernel_rfl) (by first | exact Sb.refl | exact Sb.nil | (repeat (first | exact Sb.nil | exact Sb.refl | exact Sb.app0 | apply Sb.keep | apply Sb.keepApp | apply Sb.cons | apply Sb.app))) (rd_move rfl) rfl (by kernel_rfl) ?_
        refine xm_take 7 (m' := 255) rfl (by kernel_rfl) (by first | exact Sb.refl | exact Sb.nil | (repeat (first | exact Sb.nil | exact Sb.refl | exact Sb.app0 | apply Sb.keep | apply Sb.keepApp | apply Sb.cons | apply Sb.app))) (rd_extract rfl rfl) rfl (by kernel_rfl) ?_
        refine xm_take 8 (m' := 511) rfl (by kernel_rfl) (by first | exact Sb.refl | exact Sb.nil | (repeat (first | exact Sb.nil | exact Sb.refl | exact Sb.app0 | apply Sb.keep | apply Sb.keepApp | apply Sb.cons | apply Sb.app))) (rd_extract rfl rfl) rfl (by kernel_rfl) ?_
        refine xm_take 9 (m' := 1023) rfl (by kernel_rfl) (by first | exact Sb.refl | exact Sb.nil | (repeat (first | exact Sb.nil | exact Sb.refl | exact Sb.app0 | apply Sb.keep | apply Sb.keepApp | apply Sb.cons | apply Sb.app))) (rd_assign rfl) rfl (by kernel_rfl) ?_
        refine xm_take 10 (m' := 2047) rfl (by kernel_rfl) (by first | exact Sb.refl | exact Sb.nil | (repeat (first | exact Sb.nil | exact Sb.refl | exact Sb.app0 | apply Sb.keep | apply Sb.keepApp | apply Sb.cons | apply Sb.app))) (rd_assign rfl) rfl (by kernel_rfl) ?_
        refine xm_done (by kernel_rfl) ?_
        refine xq_seq ?_
        refine xc_seq ?_
        refine xc_seq ?_
        refine xc_region ?_
        refine xo_rd (rd_move rfl) rfl ?_
        refine xo_rd (rd_move rfl) rfl ?_
        refine xo_rd (rd_cast (v' := .bool false) (rd_neq rfl rfl) (congrArg Value.bool (by rw [decide_eq_true rfl]; rfl))) rfl ?_
        refine xo_rd (rd_move rfl) rfl ?_
        refine xo_grd rfl rfl (rd_move rfl) rfl ?_
        refine xo_grd rfl rfl (rd_move rfl) rfl ?_
        refine xo_gef rfl rfl rfl (ef_call rfl (XF.mono (xf_samebytesT s3 s5 out.length out.length k3 k5 out out rfl rfl rfl (hO3.rs (by intro z hz; simp [hz])) (hO5.rs (by intro z hz; simp [hz])) (by omega)) ?_))
        rintro v L' ⟨rfl, rfl⟩
        refine xo_grd rfl rfl (rd_not rfl) rfl ?_
        refine xo_rd (rd_pickf rfl rfl) rfl ?_
        refine xo_nil ?_
        refine xq_seq ?_
        refine xc_condf rfl ?_
        refine xc_skip ?_
        refine xq_seq ?_
        refine xc_seq ?_
        refine xc_seq ?_
        refine xc_region ?_
        refine xo_rd (rd_move rfl) rfl ?_
        refine xo_rd (rd_cast (v' := .bool false) (rd_neq rfl rfl) (congrArg Value.bool (by rw [decide_eq_true rfl]; rfl))) rfl ?_
        refine xo_nil ?_
        refine xq_seq ?_
        refine xc_condf rfl ?_
        refine xc_skip ?_
        refine xq_seq ?_
      focus
        refine xc_seq ?_
        refine xc_region ?_
        refine xo_rd (rd_move rfl) rfl ?_
        refine xo_ef rfl (ef_call rfl (XF.mono (xf_split2 s3 out.length k3 out [q1, q2] 0 ht.sp rfl (hO3.rs (by intro z hz; simp [hz])) ht.by' hO3.cap.2 hol) ?_))
        rintro v L' ⟨ys, s6, k6, l6, rfl, hyq, hyo, hyr, hys, rfl⟩
        refine xo_rd (rd_move rfl) rfl ?_
        refine xo_rd (rd_extract rfl rfl) rfl ?_
        refine xo_rd (rd_extract rfl rfl) rfl ?_
        refine xo_rd (rd_assign rfl) rfl ?_
        refine xo_rd (rd_assign rfl) rfl ?_
        refine xo_nil ?_
        refine xq_seq ?_
      obtain ⟨y1, y2, rfl⟩ : ∃ y1 y2, ys = [y1, y2] := by
        match ys, hyq with
        | [y1, y2], _ => exact ⟨y1, y2, rfl⟩
      have hy1 : y1.q = q1 := (List.cons.inj hyq).1
      have hy2 : y2.q = q2 := (List.cons.inj (List.cons.inj hyq).2).1
      have ho1 := hyo y1 (by simp)
      have ho2 := hyo y2 (by simp)
      have hr1 := hyr y1 (by simp)
      have hr2 := hyr y2 (by simp)
      have hl1 : y1.q.bd.length ≤ 1000000 := by rw [hy1]; exact ht.l1
      have hl2 : y2.q.bd.length ≤ 1000000 := by rw [hy2]; exact ht.l2
      have hR1 : ∀ L, (∀ z, z ∈ y1.l → z ∈ L) → Rs W L y1.p (ints .u8 y1.q.bd) := fun L h => SlO.rs ho1 h
      have hR2 : ∀ L, (∀ z, z ∈ y2.l → z ∈ L) → Rs W L y2.p (ints .u8 y2.q.bd) := fun L h => SlO.rs ho2 h
      have hbl : bls [y1, y2] = y1.l ++ y2.l := by simp [bls]
      rw [hbl]
      dsimp only [List.length_cons, List.length_nil]
      obtain ⟨b6, o6, hp6, hc6⟩ := (hys.rs (L := l6) (fun z hz => hz) : Rs W l6 s6 ([y1, y2].flatMap Pb.enc)).rows Pb.len (by decide) (Nat.succ_pos 1)
      subst hp6
      have hcA : ∀ L, (∀ z, z ∈ l6 → z ∈ L) → ∀ (j : Nat) (u : Value), y1.enc[j]? = some u → Cl W L b6 (o6 + Int.toNat 0 * 4 + j) u := fun L h j u hj => (hc6 0 (Nat.succ_pos 1) j u hj).mono h
      have hcB : ∀ L, (∀ z, z ∈ l6 → z ∈ L) → ∀ (j : Nat) (u : Value), y2.enc[j]? = some u → Cl W L b6 (o6 + Int.toNat 1 * 4 + j) u := fun L h j u hj => (hc6 1 (Nat.lt_succ_self 1) j u hj).mono h
      refine xc_perm (L' := o.blk b :: (r12, .cells o.enc.toArray 67 (0, 0)) :: (l6 ++ (y1.l ++ (y2.l ++ (l5 ++ (l4 ++ (l3 ++ []))))))) (by classical exact List.perm_iff_count.2 fun a => by simp only [List.append_eq, List.count_append, List.count_cons, List.count_nil, List.cons_append, List.nil_append, List.flatMap_append, List.flatMap_cons, List.flatMap_nil, List.append_nil]; omega) ?_
      by_cases hp : 0 < o.pk
      · have hxs : 0 < xs.length := by omega
        focus
          refine xc_seq ?_
          refine xc_seq ?_
          refine xc_region ?_
          refine xo_rd (rd_move rfl) rfl ?_
          refine xo_rd (rd_cast (v' := .bool false) (rd_neq rfl rfl) (congrArg Value.bool (by rw [decide_eq_true rfl]; rfl))) rfl ?_
          refine xo_rd (rd_move rfl) rfl ?_
          refine xo_grd rfl rfl (rd_move rfl) rfl ?_
          refine xo_grd rfl rfl (rd_len rfl) rfl ?_
          refine xo_grd rfl rfl (rd_neq rfl rfl) rfl ?_
          refine xo_rd (rd_pickf rfl rfl) rfl ?_
          refine xo_nil ?_
          refine xq_seq ?_
          refine xc_condf rfl ?_
          refine xc_skip ?_
          refine xq_seq ?_
          refine xc_seq ?_
          refine xc_region ?_
          refine xo_rd (rd_move rfl) rfl ?_
          refine xo_rd (rd_indexAddr rfl rfl (by omega) (by omega)) rfl ?_
          refine xo_rd (rd_loadA (vs := y1.enc) rfl rfl (hcA _ (by intro z hz; simp [hz]))) rfl ?_
          refine xo_ef rfl (ef_call rfl (XF.mono (xg_ofSenderE y1 (sndF o now bs) 0 (by rw [hy1, ht.sn, if_pos hp]) (hR1 _ (by intro z hz; simp [hz])) hr1 ho1.cap.2 hl1) ?_))
          rintro v L' ⟨s7, k7, l7, rfl, hO7, rfl⟩
          refine xo_seg [_, _] l7 _ ?_
          refine xo_rd (rd_move rfl) rfl ?_
          refine xo_rd (rd_extract rfl rfl) rfl ?_
          refine xo_rd (rd_extract rfl rfl) rfl ?_
          refine xo_ef rfl (ef_alloc fun r22 => ?_)
          refine xo_ef rfl (ef_storeB [] _ rfl rfl (by first | rfl | assumption) rfl rfl rfl ?_)
          refine xo_rd (rd_assign rfl) rfl ?_
          refine xo_nil ?_
          refine xq_seq ?_
          refine xc_seq ?_
          refine xc_region ?_
          refine xo_rd (rd_move rfl) rfl ?_
          refine xo_rd (rd_indexAddr rfl rfl (by omega) (by omega)) rfl ?_
          refine xo_rd (rd_loadA (vs := y1.enc) rfl rfl (hcA _ (by intro z hz; simp [hz]))) rfl ?_
          refine xo_ef rfl (ef_call rfl (XF.mono (xg_ofReceiverE y1 0 [] 62 (by rw [hy1, ht.rc, if_pos hp]) (hR1 _ (by intro z hz; simp [hz])) hr1 ho1.cap.2 hl1) ?_))
          rintro v L' ⟨s8, k8, l8, rfl, hO8, rfl⟩
          refine xo_seg [_, _, _] l8 _ ?_
          refine xo_rd (rd_move rfl) rfl ?_
          refine xo_rd (rd_extract rfl rfl) rfl ?_
          refine xo_rd (rd_extract rfl rfl) rfl ?_
          refine xo_ef rfl (ef_alloc fun r24 => ?_)
          refine xo_ef rfl (ef_storeB [] _ rfl rfl (by first | rfl | assumption) rfl rfl rfl ?_)
          refine xo_rd (rd_assign rfl) rfl ?_
          refine xo_nil ?_
          refine xq_seq ?_
          refine xc_seq ?_
          refine xc_region ?_
          refine xo_rd (rd_move rfl) rfl ?_
          refine xo_rd (rd_indexAddr rfl rfl (by omega) (by omega)) rfl ?_
          refine xo_rd (rd_loadA (vs := y2.enc) rfl rfl (hcB _ (by intro z hz; simp [hz]))) rfl ?_
          refine xo_ef rfl (ef_call rfl (XF.mono (xg_ofChunks y2 [⟨o.ss, nm⟩] (by rw [hy2]; exact ht.ch) (hR2 _ (by intro z hz; simp [hz])) hr2 ho2.cap.2 hl2) ?_))
          rintro v L' ⟨s9, k9, l9, rfl, hO9, rfl⟩
          refine xo_seg [_, _, _, _] l9 _ ?_
          refine xo_rd (rd_move rfl) rfl ?_
          refine xo_rd (rd_extract rfl rfl) rfl ?_
          refine xo_rd (rd_extract rfl rfl) rfl ?_
          refine xo_rd (rd_assign rfl) rfl ?_
          refine xo_rd (rd_assign rfl) rfl ?_
          refine xo_nil ?_
          refine xq_seq ?_
        obtain ⟨b9, o9, hp9, hc9⟩ := (hO9.rs (L := l9) (fun _ h => h) : Rs W l9 s9 ([(⟨o.ss, nm⟩ : Ck)].flatMap Ck.enc)).rows Ck.len (by decide) (Nat.succ_pos 0)
        subst hp9
        dsimp only [List.length_cons, List.length_nil]
        have hcS : ∀ L, (∀ z, z ∈ l9 → z ∈ L) → Cl W L b9 (o9 + Int.toNat 0 * 2 + 0) (.int .u32 o.ss) := fun L h => (hc9 0 (Nat.succ_pos 0) 0 _ rfl).mono h
        have hcM : ∀ L, (∀ z, z ∈ l9 → z ∈ L) → Cl W L b9 (o9 + Int.toNat 0 * 2 + 1) (.string nm) := fun L h => (hc9 0 (Nat.succ_pos 0) 1 _ rfl).mono h
        focus
          refine xc_seq ?_
          refine xc_seq ?_
          refine xc_region ?_
          refine xo_rd (rd_move rfl) rfl ?_
          refine xo_rd (rd_eql rfl rfl) rfl ?_
          refine xo_rd (rd_move rfl) rfl ?_
          refine xo_rd (rd_len rfl) rfl ?_
          refine xo_rd (rd_gtr rfl rfl) rfl ?_
          refine xo_rd (rd_cast (v' := .bool false) (rd_neb rfl rfl) (congrArg Value.bool (ne_dec ⟨fun _ => by omega, fun _ => by omega⟩))) rfl ?_
          refine xo_rd (rd_move rfl) rfl ?_
          refine xo_grd rfl rfl (rd_move rfl) rfl ?_
          refine xo_grd rfl rfl (rd_eql rfl rfl) rfl ?_
          refine xo_grd rfl rfl (rd_move rfl) rfl ?_
          refine xo_grd rfl rfl (rd_len rfl) rfl ?_
          refine xo_grd rfl rfl (rd_eql rfl rfl) rfl ?_
          refine xo_grd rfl rfl (rd_cast (v' := .bool false) (rd_neb rfl rfl) (congrArg Value.bool (ne_dec ⟨fun _ => by omega, fun _ => by omega⟩))) rfl ?_
          refine xo_rd (rd_pickf rfl rfl) rfl ?_
          refine xo_rd (rd_move rfl) rfl ?_
          refine xo_grd rfl rfl (rd_move rfl) rfl ?_
          refine xo_grd rfl rfl (rd_cast (v' := .bool false) (rd_neq rfl rfl) (congrArg Value.bool (by rw [decide_eq_true rfl]; rfl))) rfl ?_
          refine xo_rd (rd_pickf rfl rfl) rfl ?_
          refine xo_rd (rd_move rfl) rfl ?_
          refine xo_grd rfl rfl (rd_move rfl) rfl ?_
          refine xo_grd rfl rfl (rd_len rfl) rfl ?_
          refine xo_grd rfl rfl (rd_neq rfl rfl) rfl ?_
          refine xo_rd (rd_pickf rfl rfl) rfl ?_
          refine xo_rd (rd_move rfl) rfl ?_
          refine xo_grd rfl rfl (rd_move rfl) rfl ?_
          refine xo_grd rfl rfl (rd_indexAddr rfl rfl (by omega) (by omega)) rfl ?_
          refine xo_grd rfl rfl (rd_fieldAddr rfl) rfl ?_
          refine xo_grd rfl rfl (rd_load1 rfl (hcM _ (by intro z hz; simp [hz]))) rfl ?_
          refine xo_grd rfl rfl (rd_move rfl) rfl ?_
          refine xo_grd rfl rfl (rd_cast (v' := .bool false) (rd_nes rfl rfl) (congrArg Value.bool (by rw [decide_eq_true rfl]; rfl))) rfl ?_
          refine xo_rd (rd_pickf rfl rfl) rfl ?_
          refine xo_rd (rd_move rfl) rfl ?_
          refine xo_grd rfl rfl (rd_move rfl) rfl ?_
          refine xo_grd rfl rfl (rd_indexAddr rfl rfl (by omega) (by omega)) rfl ?_
          refine xo_grd rfl rfl (rd_fieldAddr rfl) rfl ?_
          refine xo_grd rfl rfl (rd_load1 rfl (hcS _ (by intro z hz; simp [hz]))) rfl ?_
          refine xo_grd rfl rfl (rd_move rfl) rfl ?_
          refine xo_grd rfl rfl (rd_cast (v' := .bool false) (rd_neq rfl rfl) (congrArg Value.bool (by rw [decide_eq_true rfl]; rfl))) rfl ?_
          refine xo_rd (rd_pickf rfl rfl) rfl ?_
          refine xo_nil ?_
          refine xq_seq ?_
          refine xc_condf rfl ?_
          refine xc_skip ?_
          refine xq_seq ?_
          refine xc_seq ?_
          refine xc_seq ?_
          refine xc_region ?_
          refine xo_rd (rd_move rfl) rfl ?_
          refine xo_rd (rd_eql rfl rfl) rfl ?_
          refine xo_nil ?_
          refine xq_seq ?_
          refine xc_condt rfl ?_
          refine xc_seq ?_
          refine xc_drawML [0, 0, 0, 0, 8, 22, 33, 64, 128, 384, 1023] [0, 0, 0, 0, 8, 22, 33, 64, 128, 384, 1023] (by kernel_rfl) (by kernel_rfl) (by kernel_rfl) ?_
          refine xm_take 0 (m' := 1) rfl (by kernel_rfl) (by first | exact Sb.refl | exact Sb.nil | (repeat (first | exact Sb.nil | exact Sb.refl | exact Sb.app0 | apply Sb.keep | apply Sb.keepApp | apply Sb.cons | apply Sb.app))) (rd_loadB rfl Kn.o1 (by rfl)) rfl (by kernel_rfl) ?_
          refine xm_take 1 (m' := 3) rfl (by kernel_rfl) (by first | exact Sb.refl | exact Sb.nil | (repeat (first | exact Sb.nil | exact Sb.refl | exact Sb.app0 | apply Sb.keep | apply Sb.keepApp | apply Sb.cons | apply Sb.app))) (rd_loadB rfl Kn.o3 (by rfl)) rfl (by kernel_rfl) ?_
          refine xm_take 2 (m' := 7) rfl (by kernel_rfl) (by first | exact Sb.refl | exact Sb.nil | (repeat (first | exact Sb.nil | exact Sb.refl | exact Sb.app0 | apply Sb.keep | apply Sb.keepApp | apply Sb.cons | apply Sb.app))) (rd_move rfl) rfl (by kernel_rfl) ?_
          refine xm_take 3 (m' := 15) rfl (by kernel_rfl) (by first | exact Sb.refl | exact Sb.nil | (repeat (first | exact Sb.nil | exact Sb.refl | exact Sb.app0 | apply Sb.keep | apply Sb.keepApp | apply Sb.cons | apply Sb.app))) (rd_move rfl) rfl (by kernel_rfl) ?_
          refine xm_one 4 (m' := 31) rfl (by kernel_rfl) rfl (by kernel_rfl) (ef_call rfl (XF.mono (xf_dBlocks pb bs.length cb bs rfl (hB' _) (by omega)) ?_))
          rintro v L' ⟨s10, k10, l10, rfl, hO10, rfl⟩
          refine ⟨(by first | exact Sb.refl | exact Sb.nil | (repeat (first | exact Sb.nil | exact Sb.refl | exact Sb.app0 | apply Sb.keep | apply Sb.keepApp | apply Sb.cons | apply Sb.app))), ?_⟩
          refine xm_one 5 (m' := 63) rfl (by kernel_rfl) rfl (by kernel_rfl) (ef_call rfl (XF.mono (xf_rtell o hoi now hnow s10 bs.length k10 bs) ?_))
          rintro v L' ⟨rfl, rfl⟩
          refine ⟨(by first | exact Sb.refl | exact Sb.nil | (repeat (first | exact Sb.nil | exact Sb.refl | exact Sb.app0 | apply Sb.keep | apply Sb.keepApp | apply Sb.cons | apply Sb.app))), ?_⟩
          refine xm_one 6 (m' := 127) rfl (by kernel_rfl) rfl (by kernel_rfl) (ef_call rfl (XF.mono (xf_sameSender (sndF o now bs) s7 s10 k7 k10 (hO7.rs (by intro z hz; simp [hz])) (hO10.rs (by intro z hz; simp [hz])) (by show bs.length ≤ 1000000; omega)) ?_))
          rintro v L' ⟨rfl, rfl⟩
          refine ⟨(by first | exact Sb.refl | exact Sb.nil | (repeat (first | exact Sb.nil | exact Sb.refl | exact Sb.app0 | apply Sb.keep | apply Sb.keepApp | apply Sb.cons | apply Sb.app))), ?_⟩
          refine xm_take 7 (m' := 255) rfl (by kernel_rfl) (by first | exact Sb.refl | exact Sb.nil | (repeat (first | exact Sb.nil | exact Sb.refl | exact Sb.app0 | apply Sb.keep | apply Sb.keepApp | apply Sb.cons | apply Sb.app))) (rd_move rfl) rfl (by kernel_rfl) ?_
          refine xm_gone 8 (m' := 511) rfl (by kernel_rfl) rfl rfl rfl (by kernel_rfl) (ef_call rfl (XF.mono (xf_works) ?_))
          rintro v L' ⟨rfl, rfl⟩
          refine ⟨(by first | exact Sb.refl | exact Sb.nil | (repeat (first | exact Sb.nil | exact Sb.refl | exact Sb.app0 | apply Sb.keep | apply Sb.keepApp | apply Sb.cons | apply Sb.app))), ?_⟩
          refine xm_take 9 (m' := 1023) rfl (by kernel_rfl) (by first | exact Sb.refl | exact Sb.nil | (repeat (first | exact Sb.nil | exact Sb.refl | exact Sb.app0 | apply Sb.keep | apply Sb.keepApp | apply Sb.cons | apply Sb.app))) (rd_pickt rfl rfl) rfl (by kernel_rfl) ?_
          refine xm_take 10 (m' := 2047) rfl (by kernel_rfl) (by first | exact Sb.refl | exact Sb.nil | (repeat (first | exact Sb.nil | exact Sb.refl | exact Sb.app0 | apply Sb.keep | apply Sb.keepApp | apply Sb.cons | apply Sb.app))) (rd_assign rfl) rfl (by kernel_rfl) ?_
          refine xm_done (by kernel_rfl) ?_
          refine xq_seq ?_
          refine xc_ret ?_
          refine xq_then_ret ?_
          exact xq_ret1 (.inl rfl) Try.results6 rfl (rfl)
      · have hxs : xs.length = 0 := by omega
        focus
          refine xc_seq ?_
          refine xc_seq ?_
          refine xc_region ?_
          refine xo_rd (rd_move rfl) rfl ?_
          refine xo_rd (rd_cast (v' := .bool false) (rd_neq rfl rfl) (congrArg Value.bool (by rw [decide_eq_true rfl]; rfl))) rfl ?_
          refine xo_rd (rd_move rfl) rfl ?_
          refine xo_grd rfl rfl (rd_move rfl) rfl ?_
          refine xo_grd rfl rfl (rd_len rfl) rfl ?_
          refine xo_grd rfl rfl (rd_neq rfl rfl) rfl ?_
          refine xo_rd (rd_pickf rfl rfl) rfl ?_
          refine xo_nil ?_
          refine xq_seq ?_
          refine xc_condf rfl ?_
          refine xc_skip ?_
          refine xq_seq ?_
          refine xc_seq ?_
          refine xc_region ?_
          refine xo_rd (rd_move rfl) rfl ?_
          refine xo_rd (rd_indexAddr rfl rfl (by omega) (by omega)) rfl ?_
          refine xo_rd (rd_loadA (vs := y1.enc) rfl rfl (hcA _ (by intro z hz; simp [hz]))) rfl ?_
          refine xo_ef rfl (ef_call rfl (XF.mono (xg_ofSenderE y1 .zero 62 (by rw [hy1, ht.sn, if_neg hp]) (hR1 _ (by intro z hz; simp [hz])) hr1 ho1.cap.2 hl1) ?_))
          rintro v L' ⟨s7, k7, l7, rfl, hO7, rfl⟩
          refine xo_seg [_, _] l7 _ ?_
          refine xo_rd (rd_move rfl) rfl ?_
          refine xo_rd (rd_extract rfl rfl) rfl ?_
          refine xo_rd (rd_extract rfl rfl) rfl ?_
          refine xo_ef rfl (ef_alloc fun r22 => ?_)
          refine xo_ef rfl (ef_storeB [] _ rfl rfl (by first | rfl | assumption) rfl rfl rfl ?_)
          refine xo_rd (rd_assign rfl) rfl ?_
          refine xo_nil ?_
          refine xq_seq ?_
          refine xc_seq ?_
          refine xc_region ?_
          refine xo_rd (rd_move rfl) rfl ?_
          refine xo_rd (rd_indexAddr rfl rfl (by omega) (by omega)) rfl ?_
          refine xo_rd (rd_loadA (vs := y1.enc) rfl rfl (hcA _ (by intro z hz; simp [hz]))) rfl ?_
          refine xo_ef rfl (ef_call rfl (XF.mono (xg_ofReceiverE y1 o.ss bs 0 (by rw [hy1, ht.rc, if_neg hp]) (hR1 _ (by intro z hz; simp [hz])) hr1 ho1.cap.2 hl1) ?_))
          rintro v L' ⟨s8, k8, l8, rfl, hO8, rfl⟩
          refine xo_seg [_, _, _] l8 _ ?_
          refine xo_rd (rd_move rfl) rfl ?_
          refine xo_rd (rd_extract rfl rfl) rfl ?_
          refine xo_rd (rd_extract rfl rfl) rfl ?_
          refine xo_ef rfl (ef_alloc fun r24 => ?_)
          refine xo_ef rfl (ef_storeB [] _ rfl rfl (by first | rfl | assumption) rfl rfl rfl ?_)
          refine xo_rd (rd_assign rfl) rfl ?_
          refine xo_nil ?_
          refine xq_seq ?_
          refine xc_seq ?_
          refine xc_region ?_
          refine xo_rd (rd_move rfl) rfl ?_
          refine xo_rd (rd_indexAddr rfl rfl (by omega) (by omega)) rfl ?_
          refine xo_rd (rd_loadA (vs := y2.enc) rfl rfl (hcB _ (by intro z hz; simp [hz]))) rfl ?_
          refine xo_ef rfl (ef_call rfl (XF.mono (xg_ofChunks y2 [⟨o.ss, nm⟩] (by rw [hy2]; exact ht.ch) (hR2 _ (by intro z hz; simp [hz])) hr2 ho2.cap.2 hl2) ?_))
          rintro v L' ⟨s9, k9, l9, rfl, hO9, rfl⟩
          refine xo_seg [_, _, _, _] l9 _ ?_
          refine xo_rd (rd_move rfl) rfl ?_
          refine xo_rd (rd_extract rfl rfl) rfl ?_
          refine xo_rd (rd_extract rfl rfl) rfl ?_
          refine xo_rd (rd_assign rfl) rfl ?_
          refine xo_rd (rd_assign rfl) rfl ?_
          refine xo_nil ?_
          refine xq_seq ?_
        obtain ⟨b9, o9, hp9, hc9⟩ := (hO9.rs (L := l9) (fun _ h => h) : Rs W l9 s9 ([(⟨o.ss, nm⟩ : Ck)].flatMap Ck.enc)).rows Ck.len (by decide) (Nat.succ_pos 0)
        subst hp9
        dsimp only [List.length_cons, List.length_nil]
        have hcS : ∀ L, (∀ z, z ∈ l9 → z ∈ L) → Cl W L b9 (o9 + Int.toNat 0 * 2 + 0) (.int .u32 o.ss) := fun L h => (hc9 0 (Nat.succ_pos 0) 0 _ rfl).mono h
        have hcM : ∀ L, (∀ z, z ∈ l9 → z ∈ L) → Cl W L b9 (o9 + Int.toNat 0 * 2 + 1) (.string nm) := fun L h => (hc9 0 (Nat.succ_pos 0) 1 _ rfl).mono h
        focus
          refine xc_seq ?_
          refine xc_seq ?_
          refine xc_region ?_
          refine xo_rd (rd_move rfl) rfl ?_
          refine xo_rd (rd_eql rfl rfl) rfl ?_
          refine xo_rd (rd_move rfl) rfl ?_
          refine xo_rd (rd_len rfl) rfl ?_
          refine xo_rd (rd_gtr rfl rfl) rfl ?_
          refine xo_rd (rd_cast (v' := .bool false) (rd_neb rfl rfl) (congrArg Value.bool (ne_dec ⟨fun _ => by omega, fun _ => by omega⟩))) rfl ?_
          refine xo_rd (rd_move rfl) rfl ?_
          refine xo_grd rfl rfl (rd_move rfl) rfl ?_
          refine xo_grd rfl rfl (rd_eql rfl rfl) rfl ?_
          refine xo_grd rfl rfl (rd_move rfl) rfl ?_
          refine xo_grd rfl rfl (rd_len rfl) rfl ?_
          refine xo_grd rfl rfl (rd_eql rfl rfl) rfl ?_
          refine xo_grd rfl rfl (rd_cast (v' := .bool false) (rd_neb rfl rfl) (congrArg Value.bool (ne_dec ⟨fun _ => by omega, fun _ => by omega⟩))) rfl ?_
          refine xo_rd (rd_pickf rfl rfl) rfl ?_
          refine xo_rd (rd_move rfl) rfl ?_
          refine xo_grd rfl rfl (rd_move rfl) rfl ?_
          refine xo_grd rfl rfl (rd_cast (v' := .bool false) (rd_neq rfl rfl) (congrArg Value.bool (by rw [decide_eq_true rfl]; rfl))) rfl ?_
          refine xo_rd (rd_pickf rfl rfl) rfl ?_
          refine xo_rd (rd_move rfl) rfl ?_
          refine xo_grd rfl rfl (rd_move rfl) rfl ?_
          refine xo_grd rfl rfl (rd_len rfl) rfl ?_
          refine xo_grd rfl rfl (rd_neq rfl rfl) rfl ?_
          refine xo_rd (rd_pickf rfl rfl) rfl ?_
          refine xo_rd (rd_move rfl) rfl ?_
          refine xo_grd rfl rfl (rd_move rfl) rfl ?_
          refine xo_grd rfl rfl (rd_indexAddr rfl rfl (by omega) (by omega)) rfl ?_
          refine xo_grd rfl rfl (rd_fieldAddr rfl) rfl ?_
          refine xo_grd rfl rfl (rd_load1 rfl (hcM _ (by intro z hz; simp [hz]))) rfl ?_
          refine xo_grd rfl rfl (rd_move rfl) rfl ?_
          refine xo_grd rfl rfl (rd_cast (v' := .bool false) (rd_nes rfl rfl) (congrArg Value.bool (by rw [decide_eq_true rfl]; rfl))) rfl ?_
          refine xo_rd (rd_pickf rfl rfl) rfl ?_
          refine xo_rd (rd_move rfl) rfl ?_
          refine xo_grd rfl rfl (rd_move rfl) rfl ?_
          refine xo_grd rfl rfl (rd_indexAddr rfl rfl (by omega) (by omega)) rfl ?_
          refine xo_grd rfl rfl (rd_fieldAddr rfl) rfl ?_
          refine xo_grd rfl rfl (rd_load1 rfl (hcS _ (by intro z hz; simp [hz]))) rfl ?_
          refine xo_grd rfl rfl (rd_move rfl) rfl ?_
          refine xo_grd rfl rfl (rd_cast (v' := .bool false) (rd_neq rfl rfl) (congrArg Value.bool (by rw [decide_eq_true rfl]; rfl))) rfl ?_
          refine xo_rd (rd_pickf rfl rfl) rfl ?_
          refine xo_nil ?_
          refine xq_seq ?_
          refine xc_condf rfl ?_
          refine xc_skip ?_
          refine xq_seq ?_
        focus
          refine xc_seq ?_
          refine xc_seq ?_
          refine xc_region ?_
          refine xo_rd (rd_move rfl) rfl ?_
          refine xo_rd (rd_eql rfl rfl) rfl ?_
          refine xo_nil ?_
          refine xq_seq ?_
          refine xc_condf rfl ?_
          refine xc_skip ?_
          refine xq_seq ?_
          refine xc_seq ?_
          refine xc_region ?_
          refine xo_rd (rd_fieldAddr rfl) rfl ?_
          refine xo_rd (rd_load1 rfl (Cl.o0 rfl)) rfl ?_
          refine xo_rd (rd_move rfl) rfl ?_
          refine xo_rd (rd_cast (v' := .bool true) (rd_eql rfl rfl) (congrArg Value.bool (decide_eq_true rfl))) rfl ?_
          refine xo_rd (rd_move rfl) rfl ?_
          refine xo_grd rfl rfl (rd_fieldAddr rfl) rfl ?_
          refine xo_grd rfl rfl (rd_load1 rfl (Cl.o0 rfl)) rfl ?_
          refine xo_grd rfl rfl (rd_len rfl) rfl ?_
          refine xo_grd rfl rfl (rd_move rfl) rfl ?_
          refine xo_grd rfl rfl (rd_len rfl) rfl ?_
          refine xo_grd rfl rfl (rd_cast (v' := .bool true) (rd_eql rfl rfl) (congrArg Value.bool (decide_eq_true rfl))) rfl ?_
          refine xo_rd (rd_pickt rfl rfl) rfl ?_
          refine xo_rd (rd_move rfl) rfl ?_
          refine xo_gef rfl rfl rfl (ef_call rfl (XF.mono (xf_works) ?_))
          rintro v L' ⟨rfl, rfl⟩
          refine xo_rd (rd_pickt rfl rfl) rfl ?_
          refine xo_rd (rd_assign rfl) rfl ?_
          refine xo_nil ?_
          refine xq_seq ?_
          refine xc_ret ?_
          exact xq_ret1 (.inl rfl) Try.results6 rfl (rfl)
end Go.Proofs.Ytogilblilljpmaa.X
/-
  The report layer: clocks rise, a thousand ticks are a second: ReportClocks over any blocks: a walk of my own.
-/
namespace Go.Proofs.Ytogilblilljpmaa.X
open Go Go.RowKit
set_option linter.unusedVariables false
set_option linter.unusedSimpArgs false
theorem ntp_ge {t m : Int} (h0 : 0 ≤ t) (h1 : t ≤ 2199023255551) (h2 : 0 ≤ m) (h3 : m ≤ 1099511627775) : ntpF t ≤ ntpF (t + m) := by
  unfold ntpF
  have e1 : t / 1000 % 4294967296 = t / 1000 := by omega
  have e2 : (t + m) / 1000 % 4294967296 = (t + m) / 1000 := by omega
  rw [e1, e2]
  omega
theorem ntp_sub {t : Int} (h0 : 0 ≤ t) (h1 : t ≤ 2199023255551) : ntpF (t + 1000) - ntpF t = 4294967296 := by
  unfold ntpF
  have e1 : t / 1000 % 4294967296 = t / 1000 := by omega
  have e2 : (t + 1000) / 1000 % 4294967296 = t / 1000 + 1 := by omega
  have e3 : (t + 1000) % 1000 = t % 1000 := by omega
  rw [e1, e2, e3]
  omega
theorem xf_ReportClocks {W : World} {L : List Blk} (now more : Int) (h : U8 now) (h' : U8 more) : XF Try.prog W 3 #[.int .u64 now, .int .u64 more] L (fun v L' => v = .bool true ∧ L' = L) := by
  have hn := ntpF_range h
  have hge := ntp_ge (t := now % 2199023255552) (m := more % 1099511627776) (by omega) (by omega) (by omega) (by omega)
  have hsb := ntp_sub (t := now % 2199023255552) (by omega) (by omega)
  have r1 := ntpF_range (n := now % 2199023255552 + 1000) ⟨by omega, by omega⟩
  have r2 := ntpF_range (n := now % 2199023255552) ⟨by omega, by omega⟩
  obtain ⟨a0, a1⟩ := h; obtain ⟨b0, b1⟩ := h'; obtain ⟨c0, c1⟩ := r1; obtain ⟨d0, d1⟩ := r2
  refine xf_enter (args := [_, _]) Try.func3 rfl Try.ntmps3 rfl ?_
  focus
    refine xc_seq ?_
    refine xc_region ?_
    refine xo_rd (rd_assign rfl) rfl ?_
    refine xo_nil ?_
    refine xq_seq ?_
    refine xc_seq ?_
    refine xc_region ?_
    refine xo_rd (rd_move rfl) rfl ?_
    refine xo_ef rfl (ef_call rfl (XF.mono (xf_ntp _ ⟨by omega, by omega⟩) ?_))
    rintro v L' ⟨rfl, rfl⟩
    refine xo_rd (rd_assign rfl) rfl ?_
    refine xo_nil ?_
    refine xq_seq ?_
    refine xc_seq ?_
    refine xc_seq ?_
    refine xc_region ?_
    refine xo_rd (rd_move rfl) rfl ?_
    refine xo_rd (rd_move rfl) rfl ?_
    refine xo_ef rfl (ef_call rfl (XF.mono (xf_rntp _ ⟨by omega, by omega⟩) ?_))
    rintro v L' ⟨rfl, rfl⟩
    refine xo_rd (rd_cast (v' := .bool false) (rd_neq rfl rfl) (congrArg Value.bool (by rw [decide_eq_true rfl]; rfl))) rfl ?_
    refine xo_rd (rd_move rfl) rfl ?_
    refine xo_grd rfl rfl (rd_move rfl) rfl ?_
    refine xo_gef rfl rfl rfl (ef_call rfl (XF.mono (xf_middle _ (by first | exact hn | exact ⟨by omega, by omega⟩)) ?_))
    rintro v L' ⟨rfl, rfl⟩
    refine xo_grd rfl rfl (rd_move rfl) rfl ?_
    refine xo_gef rfl rfl rfl (ef_call rfl (XF.mono (xf_rmiddle _ (by first | exact hn | exact ⟨by omega, by omega⟩)) ?_))
    rintro v L' ⟨rfl, rfl⟩
    refine xo_grd rfl rfl (rd_cast (v' := .bool false) (rd_neq rfl rfl) (congrArg Value.bool (by rw [decide_eq_true rfl]; rfl))) rfl ?_
    refine xo_rd (rd_pickf rfl rfl) rfl ?_
    refine xo_rd (rd_move rfl) rfl ?_
    refine xo_grd rfl rfl (rd_move rfl) rfl ?_
    refine xo_gef rfl rfl rfl (ef_call rfl (XF.mono (xf_middle _ (by first | exact hn | exact ⟨by omega, by omega⟩)) ?_))
    rintro v L' ⟨rfl, rfl⟩
    refine xo_grd rfl rfl (rd_move rfl) rfl ?_
    refine xo_gef rfl rfl rfl (ef_call rfl (XF.mono (xf_rmiddle _ (by first | exact hn | exact ⟨by omega, by omega⟩)) ?_))
    rintro v L' ⟨rfl, rfl⟩
    refine xo_grd rfl rfl (rd_cast (v' := .bool false) (rd_neq rfl rfl) (congrArg Value.bool (by rw [decide_eq_true rfl]; rfl))) rfl ?_
    refine xo_rd (rd_pickf rfl rfl) rfl ?_
    refine xo_rd (rd_move rfl) rfl ?_
    refine xo_grd rfl rfl (rd_move rfl) rfl ?_
    refine xo_gef rfl rfl rfl (ef_call rfl (XF.mono (xf_units _ ⟨by omega, by omega⟩) ?_))
    rintro v L' ⟨rfl, rfl⟩
    refine xo_grd rfl rfl (rd_move rfl) rfl ?_
    refine xo_gef rfl rfl rfl (ef_call rfl (XF.mono (xf_runits _ ⟨by omega, by omega⟩) ?_))
    rintro v L' ⟨rfl, rfl⟩
    refine xo_grd rfl rfl (rd_cast (v' := .bool false) (rd_neq rfl rfl) (congrArg Value.bool (by rw [decide_eq_true rfl]; rfl))) rfl ?_
    refine xo_rd (rd_pickf rfl rfl) rfl ?_
    refine xo_rd (rd_move rfl) rfl ?_
    refine xo_grd rfl rfl (rd_move rfl) rfl ?_
    refine xo_gef rfl rfl rfl (ef_call rfl (XF.mono (xf_units _ ⟨by omega, by omega⟩) ?_))
    rintro v L' ⟨rfl, rfl⟩
    refine xo_grd rfl rfl (rd_move rfl) rfl ?_
    refine xo_gef rfl rfl rfl (ef_call rfl (XF.mono (xf_runits _ ⟨by omega, by omega⟩) ?_))
    rintro v L' ⟨rfl, rfl⟩
    refine xo_grd rfl rfl (rd_cast (v' := .bool false) (rd_neq rfl rfl) (congrArg Value.bool (by rw [decide_eq_true rfl]; rfl))) rfl ?_
    refine xo_rd (rd_pickf rfl rfl) rfl ?_
    refine xo_nil ?_
    refine xq_seq ?_
    refine xc_condf rfl ?_
    refine xc_skip ?_
    refine xq_seq ?_
    refine xc_seq ?_
    refine xc_region ?_
    refine xo_rd (rd_move rfl) rfl ?_
    refine xo_rd (rd_remn rfl rfl (by omega) (by omega)) rfl ?_
    refine xo_rd (rd_assign rfl) rfl ?_
    refine xo_nil ?_
    refine xq_seq ?_
    refine xc_seq ?_
    refine xc_region ?_
    refine xo_rd (rd_move rfl) rfl ?_
    refine xo_rd (rd_move rfl) rfl ?_
    refine xo_rd (rd_remn rfl rfl (by omega) (by omega)) rfl ?_
    refine xo_rd (rd_addn rfl rfl (by omega) (by omega)) rfl ?_
    refine xo_rd (rd_assign rfl) rfl ?_
    refine xo_nil ?_
    refine xq_seq ?_
    refine xc_seq ?_
    refine xc_region ?_
    refine xo_rd (rd_move rfl) rfl ?_
    refine xo_ef rfl (ef_call rfl (XF.mono (xf_ntp _ ⟨by omega, by omega⟩) ?_))
    rintro v L' ⟨rfl, rfl⟩
    refine xo_rd (rd_move rfl) rfl ?_
    refine xo_ef rfl (ef_call rfl (XF.mono (xf_ntp _ ⟨by omega, by omega⟩) ?_))
    rintro v L' ⟨rfl, rfl⟩
    refine xo_rd (rd_cast (v' := .bool true) (rd_geq rfl rfl) (congrArg Value.bool (decide_eq_true hge))) rfl ?_
    refine xo_rd (rd_move rfl) rfl ?_
    refine xo_grd rfl rfl (rd_move rfl) rfl ?_
    refine xo_grd rfl rfl (rd_addn rfl rfl (by omega) (by omega)) rfl ?_
    refine xo_gef rfl rfl rfl (ef_call rfl (XF.mono (xf_ntp _ ⟨by omega, by omega⟩) ?_))
    rintro v L' ⟨rfl, rfl⟩
    refine xo_grd rfl rfl (rd_move rfl) rfl ?_
    refine xo_gef rfl rfl rfl (ef_call rfl (XF.mono (xf_ntp _ ⟨by omega, by omega⟩) ?_))
    rintro v L' ⟨rfl, rfl⟩
    refine xo_grd rfl rfl (rd_subn rfl rfl (by omega) (by omega)) rfl ?_
    refine xo_grd rfl rfl (rd_eql rfl rfl) rfl ?_
    refine xo_rd (rd_pickt rfl rfl) rfl ?_
    refine xo_rd (rd_move rfl) rfl ?_
    refine xo_dec 62 rfl (fun h1 => ?_) (fun h1 => (by exfalso; omega))
    refine xo_gef rfl rfl rfl (ef_call rfl (XF.mono (xf_works) ?_))
    rintro v L' ⟨rfl, rfl⟩
    refine xo_rd (rd_pickt rfl rfl) rfl ?_
    refine xo_rd (rd_assign rfl) rfl ?_
    refine xo_nil ?_
    refine xq_seq ?_
    refine xc_ret ?_
    exact xq_ret1 (.inl rfl) Try.results3 rfl (⟨rfl, rfl⟩)
end Go.Proofs.Ytogilblilljpmaa.X
/-
  The report layer: what a remote hears, and what a block then tells: ReportHears over any blocks: walks of my own.
-/
namespace Go.Proofs.Ytogilblilljpmaa.X
open Go Go.RowKit
set_option linter.unusedVariables false
set_option linter.unusedSimpArgs false
structure Rm where
  an : Bool
  md : Int
  ti : Int
def Rm.enc (r : Rm) : List Value := [.bool r.an, .int .u32 r.md, .int .u64 r.ti]
def Rm.zero : Rm := ⟨false, 0, 0⟩
def hrF (r : Rm) (x : Bk) (now : Int) : Bk := if r.an then ⟨x.ss, x.lo, x.to, x.hi, x.ji, r.md, unitsF (sinceF r.ti now)⟩ else ⟨x.ss, x.lo, x.to, x.hi, x.ji, 0, 0⟩
section
variable {W : World} {L : List Blk}
theorem xf_newRemote : XF Try.prog W 15 #[] L (fun v L' => ∃ b, v = .pointer (some ⟨b, 0, none⟩) ∧ L' = (b, .cells Rm.zero.enc.toArray 94 (0, 0)) :: L) := by
  refine xf_enter (args := []) Try.func15 rfl Try.ntmps15 rfl ?_
  focus
    refine xc_seq ?_
    refine xc_region ?_
    refine xo_rd (rd_assign rfl) rfl ?_
    refine xo_nil ?_
    refine xq_seq ?_
    refine xc_seq ?_
    refine xc_region ?_
    refine xo_rd (rd_build rfl rfl rfl) rfl ?_
    refine xo_ef rfl (ef_box rfl fun r2 => ?_)
    refine xo_rd (rd_assign rfl) rfl ?_
    refine xo_nil ?_
    refine xq_seq ?_
    refine xc_ret ?_
  exact xq_ret1 (.inl rfl) Try.results15 rfl ⟨_, rfl, rfl⟩
theorem xf_heard (b : Nat) (r : Rm) (x : Sn) (v : Value) (now : Int) (hn : U8 x.nt) : XF Try.prog W 19 #[.pointer (some ⟨b, 0, none⟩), .agg (x.enc v).toArray, .int .u64 now] ((b, .cells r.enc.toArray 94 (0, 0)) :: L) (fun v L' => v = .tuple #[] ∧ L' = (b, .cells (Rm.enc ⟨true, midF x.nt, now⟩).toArray 94 (0, 0)) :: L) := by
  refine xf_enter (args := [.pointer (some ⟨b, 0, none⟩), .agg (x.enc v).toArray, .int .u64 now]) Try.func19 rfl Try.ntmps19 rfl ?_
  obtain ⟨an, md, ti⟩ := r
  dsimp only [Rm.enc]
  focus
    refine xc_seq ?_
    refine xc_region ?_
    refine xo_ef rfl (ef_box rfl fun r4 => ?_)
    refine xo_nil ?_
    refine xq_seq ?_
    refine xc_seq ?_
    refine xc_region ?_
    refine xo_rd (rd_move rfl) rfl ?_
    refine xo_rd (rd_nenil rfl) rfl ?_
    refine xo_nil ?_
    refine xq_seq ?_
    refine xc_condt rfl ?_
    refine xc_region ?_
    refine xo_rd (rd_move rfl) rfl ?_
    refine xo_rd (rd_move rfl) rfl ?_
    refine xo_rd (rd_move rfl) rfl ?_
    refine xo_rd (rd_fieldAddr rfl) rfl ?_
    refine xo_rd (rd_load1 rfl (Cl.o0 rfl)) rfl ?_
    refine xo_ef rfl (ef_call rfl (XF.mono (xf_middle x.nt hn) ?_))
    rintro v L' ⟨rfl, rfl⟩
    refine xo_rd (rd_move rfl) rfl ?_
    refine xo_rd (rd_nilCheck rfl) rfl ?_
    refine xo_rd (rd_fieldAddr rfl) rfl ?_
    refine xo_ef rfl (ef_store1 [_] _ rfl rfl (by first | rfl | assumption) rfl rfl rfl ?_)
    refine xo_rd (rd_nilCheck rfl) rfl ?_
    refine xo_rd (rd_fieldAddr rfl) rfl ?_
    refine xo_ef rfl (ef_store1 [_] _ rfl rfl (by first | rfl | assumption) rfl rfl rfl ?_)
    refine xo_rd (rd_nilCheck rfl) rfl ?_
    refine xo_rd (rd_fieldAddr rfl) rfl ?_
    refine xo_ef rfl (ef_store1 [_] _ rfl rfl (by first | rfl | assumption) rfl rfl rfl ?_)
    refine xo_nil ?_
    exact xq_tail (xq_ret0 (.inr rfl) Try.results19 (⟨rfl, rfl⟩))
theorem xf_block (b : Nat) (r : Rm) (x : Bk) (now : Int) (hr : U8 r.ti) (hn : U8 now) : XF Try.prog W 17 #[.pointer (some ⟨b, 0, none⟩), .agg x.enc.toArray, .int .u64 now] ((b, .cells r.enc.toArray 94 (0, 0)) :: L) (fun v L' => v = .agg (hrF r x now).enc.toArray ∧ L' = (b, .cells r.enc.toArray 94 (0, 0)) :: L) := by
  refine xf_enter (args := [.pointer (some ⟨b, 0, none⟩), .agg x.enc.toArray, .int .u64 now]) Try.func17 rfl Try.ntmps17 rfl ?_
  obtain ⟨an, md, ti⟩ := r
  have hs := sinceF_range hr hn
  dsimp only [Rm.enc] at *
  cases an
  · focus
      refine xc_seq ?_
      refine xc_region ?_
      refine xo_ef rfl (ef_box rfl fun r4 => ?_)
      refine xo_ef rfl (ef_alloc fun r6 => ?_)
      refine xo_nil ?_
      refine xq_seq ?_
      refine xc_seq ?_
      refine xc_seq ?_
      refine xc_region ?_
      refine xo_rd (rd_move rfl) rfl ?_
      refine xo_rd (rd_eqnil rfl) rfl ?_
      refine xo_nil ?_
      refine xq_seq ?_
      refine xc_condf rfl ?_
      refine xc_skip ?_
      refine xq_seq ?_
      refine xc_seq ?_
      refine xc_region ?_
      refine xo_rd (rd_fieldAddr rfl) rfl ?_
      refine xo_ef rfl (ef_store1 [_] _ rfl rfl (by first | rfl | assumption) rfl rfl rfl ?_)
      refine xo_rd (rd_fieldAddr rfl) rfl ?_
      refine xo_ef rfl (ef_store1 [_] _ rfl rfl (by first | rfl | assumption) rfl rfl rfl ?_)
      refine xo_nil ?_
      refine xq_seq ?_
      refine xc_seq ?_
      refine xc_seq ?_
      refine xc_region ?_
      refine xo_rd (rd_move rfl) rfl ?_
      refine xo_rd (rd_nilCheck rfl) rfl ?_
      refine xo_rd (rd_fieldAddr rfl) rfl ?_
      refine xo_rd (rd_load1 rfl (Cl.o2 rfl)) rfl ?_
      refine xo_nil ?_
      refine xq_seq ?_
      refine xc_condf rfl ?_
      refine xc_skip ?_
      refine xq_seq ?_
      refine xc_seq ?_
      refine xc_region ?_
      refine xo_rd (rd_loadB rfl Kn.o1 (by rfl)) rfl ?_
      refine xo_ef rfl (ef_storeB [] _ rfl rfl (by first | rfl | assumption) rfl rfl rfl ?_)
      refine xo_nil ?_
      refine xq_seq ?_
      refine xc_ret ?_
    exact xq_retB (.inl rfl) Try.results17 rfl Kn.o0 rfl (List.sublist_append_right [_, _] _) ⟨rfl, rfl⟩
  · focus
      refine xc_seq ?_
      refine xc_region ?_
      refine xo_ef rfl (ef_box rfl fun r4 => ?_)
      refine xo_ef rfl (ef_alloc fun r6 => ?_)
      refine xo_nil ?_
      refine xq_seq ?_
      refine xc_seq ?_
      refine xc_seq ?_
      refine xc_region ?_
      refine xo_rd (rd_move rfl) rfl ?_
      refine xo_rd (rd_eqnil rfl) rfl ?_
      refine xo_nil ?_
      refine xq_seq ?_
      refine xc_condf rfl ?_
      refine xc_skip ?_
      refine xq_seq ?_
      refine xc_seq ?_
      refine xc_region ?_
      refine xo_rd (rd_fieldAddr rfl) rfl ?_
      refine xo_ef rfl (ef_store1 [_] _ rfl rfl (by first | rfl | assumption) rfl rfl rfl ?_)
      refine xo_rd (rd_fieldAddr rfl) rfl ?_
      refine xo_ef rfl (ef_store1 [_] _ rfl rfl (by first | rfl | assumption) rfl rfl rfl ?_)
      refine xo_nil ?_
      refine xq_seq ?_
      refine xc_seq ?_
      refine xc_seq ?_
      refine xc_region ?_
      refine xo_rd (rd_move rfl) rfl ?_
      refine xo_rd (rd_nilCheck rfl) rfl ?_
      refine xo_rd (rd_fieldAddr rfl) rfl ?_
      refine xo_rd (rd_load1 rfl (Cl.o2 rfl)) rfl ?_
      refine xo_nil ?_
      refine xq_seq ?_
      refine xc_condt rfl ?_
      refine xc_drawM [0, 1, 2, 4, 0, 16, 32, 64, 0, 384, 512, 15, 3087, 8191, 16383] [0, 1, 2, 4, 0, 16, 32, 64, 0, 384, 512, 15, 3087, 8191, 16383] ([(b, .cells #[.bool true, .int .u32 md, .int .u64 ti] 94 (0, 0))]) (by kernel_rfl) (by kernel_rfl) (by kernel_rfl) ?_
      refine xm_take 0 (m' := 1) rfl (by kernel_rfl) (by first | exact Sb.refl | exact Sb.nil | (repeat (first | exact Sb.nil | exact Sb.refl | exact Sb.app0 | apply Sb.keep | apply Sb.keepApp | apply Sb.cons | apply Sb.app))) (rd_move rfl) rfl (by kernel_rfl) ?_
      refine xm_take 1 (m' := 3) rfl (by kernel_rfl) (by first | exact Sb.refl | exact Sb.nil | (repeat (first | exact Sb.nil | exact Sb.refl | exact Sb.app0 | apply Sb.keep | apply Sb.keepApp | apply Sb.cons | apply Sb.app))) (rd_nilCheck rfl) rfl (by kernel_rfl) ?_
      refine xm_take 2 (m' := 7) rfl (by kernel_rfl) (by first | exact Sb.refl | exact Sb.nil | (repeat (first | exact Sb.nil | exact Sb.refl | exact Sb.app0 | apply Sb.keep | apply Sb.keepApp | apply Sb.cons | apply Sb.app))) (rd_fieldAddr rfl) rfl (by kernel_rfl) ?_
      refine xm_take 3 (m' := 15) rfl (by kernel_rfl) (by first | exact Sb.refl | exact Sb.nil | (repeat (first | exact Sb.nil | exact Sb.refl | exact Sb.app0 | apply Sb.keep | apply Sb.keepApp | apply Sb.cons | apply Sb.app))) (rd_load1 rfl (Cl.o0 rfl)) rfl (by kernel_rfl) ?_
      refine xm_take 4 (m' := 31) rfl (by kernel_rfl) (by first | exact Sb.refl | exact Sb.nil | (repeat (first | exact Sb.nil | exact Sb.refl | exact Sb.app0 | apply Sb.keep | apply Sb.keepApp | apply Sb.cons | apply Sb.app))) (rd_move rfl) rfl (by kernel_rfl) ?_
      refine xm_take 5 (m' := 63) rfl (by kernel_rfl) (by first | exact Sb.refl | exact Sb.nil | (repeat (first | exact Sb.nil | exact Sb.refl | exact Sb.app0 | apply Sb.keep | apply Sb.keepApp | apply Sb.cons | apply Sb.app))) (rd_nilCheck rfl) rfl (by kernel_rfl) ?_
      refine xm_take 6 (m' := 127) rfl (by kernel_rfl) (by first | exact Sb.refl | exact Sb.nil | (repeat (first | exact Sb.nil | exact Sb.refl | exact Sb.app0 | apply Sb.keep | apply Sb.keepApp | apply Sb.cons | apply Sb.app))) (rd_fieldAddr rfl) rfl (by kernel_rfl) ?_
      refine xm_take 7 (m' := 255) rfl (by kernel_rfl) (by first | exact Sb.refl | exact Sb.nil | (repeat (first | exact Sb.nil | exact Sb.refl | exact Sb.app0 | apply Sb.keep | apply Sb.keepApp | apply Sb.cons | apply Sb.app))) (rd_load1 rfl (Cl.o0 rfl)) rfl (by kernel_rfl) ?_
      refine xm_take 8 (m' := 511) rfl (by kernel_rfl) (by first | exact Sb.refl | exact Sb.nil | (repeat (first | exact Sb.nil | exact Sb.refl | exact Sb.app0 | apply Sb.keep | apply Sb.keepApp | apply Sb.cons | apply Sb.app))) (rd_move rfl) rfl (by kernel_rfl) ?_
      refine xm_take 11 (m' := 2559) rfl (by kernel_rfl) (by first | exact Sb.refl | exact Sb.nil | (repeat (first | exact Sb.nil | exact Sb.refl | exact Sb.app0 | apply Sb.keep | apply Sb.keepApp | apply Sb.cons | apply Sb.app))) (rd_fieldAddr rfl) rfl (by kernel_rfl) ?_
      refine xm_one 9 (m' := 3071) rfl (by kernel_rfl) rfl (by kernel_rfl) (ef_call rfl (XF.mono (xf_since ti now hr hn) ?_))
      rintro v L' ⟨rfl, rfl⟩
      refine ⟨(by first | exact Sb.refl | exact Sb.nil | (repeat (first | exact Sb.nil | exact Sb.refl | exact Sb.app0 | apply Sb.keep | apply Sb.keepApp | apply Sb.cons | apply Sb.app))), ?_⟩
      refine xm_one 10 (m' := 4095) rfl (by kernel_rfl) rfl (by kernel_rfl) (ef_call rfl (XF.mono (xf_units (sinceF ti now) hs) ?_))
      rintro v L' ⟨rfl, rfl⟩
      refine ⟨(by first | exact Sb.refl | exact Sb.nil | (repeat (first | exact Sb.nil | exact Sb.refl | exact Sb.app0 | apply Sb.keep | apply Sb.keepApp | apply Sb.cons | apply Sb.app))), ?_⟩
      refine xm_one 12 (m' := 8191) rfl (by kernel_rfl) rfl (by kernel_rfl) (ef_store1 [_] _ rfl rfl (by first | rfl | assumption) rfl rfl rfl ?_)
      refine ⟨(by first | exact Sb.refl | exact Sb.nil | (repeat (first | exact Sb.nil | exact Sb.refl | exact Sb.app0 | apply Sb.keep | apply Sb.keepApp | apply Sb.cons | apply Sb.app))), ?_⟩
      refine xm_take 13 (m' := 16383) rfl (by kernel_rfl) (by first | exact Sb.refl | exact Sb.nil | (repeat (first | exact Sb.nil | exact Sb.refl | exact Sb.app0 | apply Sb.keep | apply Sb.keepApp | apply Sb.cons | apply Sb.app))) (rd_fieldAddr rfl) rfl (by kernel_rfl) ?_
      refine xm_one 14 (m' := 32767) rfl (by kernel_rfl) rfl (by kernel_rfl) (ef_store1 [_] _ rfl rfl (by first | rfl | assumption) rfl rfl rfl ?_)
      refine ⟨(by first | exact Sb.refl | exact Sb.nil | (repeat (first | exact Sb.nil | exact Sb.refl | exact Sb.app0 | apply Sb.keep | apply Sb.keepApp | apply Sb.cons | apply Sb.app))), ?_⟩
      refine xm_done (by kernel_rfl) ?_
      refine xq_seq ?_
      refine xc_seq ?_
      refine xc_region ?_
      refine xo_rd (rd_loadB rfl Kn.o1 (by rfl)) rfl ?_
      refine xo_ef rfl (ef_storeB [] _ rfl rfl (by first | rfl | assumption) rfl rfl rfl ?_)
      refine xo_nil ?_
      refine xq_seq ?_
      refine xc_ret ?_
    all_goals exact xq_retB (.inl rfl) Try.results17 rfl Kn.o0 rfl (List.sublist_append_right [_, _] _) ⟨rfl, rfl⟩
theorem xf_rblock (r : Rm) (x : Bk) (now : Int) (hr : U8 r.ti) (hn : U8 now) : XF Try.prog W 18 #[.agg r.enc.toArray, .agg x.enc.toArray, .int .u64 now] L (fun v L' => v = .agg (hrF r x now).enc.toArray ∧ L' = L) := by
  refine xf_enter (args := [.agg r.enc.toArray, .agg x.enc.toArray, .int .u64 now]) Try.func18 rfl Try.ntmps18 rfl ?_
  obtain ⟨an, md, ti⟩ := r
  have hs := sinceF_range hr hn
  dsimp only [Rm.enc] at *
  cases an
  · focus
      refine xc_seq ?_
      refine xc_region ?_
      refine xo_ef rfl (ef_box rfl fun r3 => ?_)
      refine xo_ef rfl (ef_box rfl fun r4 => ?_)
      refine xo_ef rfl (ef_alloc fun r6 => ?_)
      refine xo_nil ?_
      refine xq_seq ?_
      refine xc_seq ?_
      refine xc_region ?_
      refine xo_rd (rd_fieldAddr rfl) rfl ?_
      refine xo_ef rfl (ef_store1 [_] _ rfl rfl (by first | rfl | assumption) rfl rfl rfl ?_)
      refine xo_nil ?_
      refine xq_seq ?_
      refine xc_seq ?_
      refine xc_region ?_
      refine xo_rd (rd_fieldAddr rfl) rfl ?_
      refine xo_ef rfl (ef_store1 [_] _ rfl rfl (by first | rfl | assumption) rfl rfl rfl ?_)
      refine xo_nil ?_
      refine xq_seq ?_
      refine xc_seq ?_
      refine xc_seq ?_
      refine xc_region ?_
      refine xo_rd (rd_fieldAddr rfl) rfl ?_
      refine xo_rd (rd_load1 rfl (Cl.o2 rfl)) rfl ?_
      refine xo_nil ?_
      refine xq_seq ?_
      refine xc_condf rfl ?_
      refine xc_skip ?_
      refine xq_seq ?_
      refine xc_seq ?_
      refine xc_region ?_
      refine xo_rd (rd_loadB rfl Kn.o1 (by rfl)) rfl ?_
      refine xo_ef rfl (ef_storeB [] _ rfl rfl (by first | rfl | assumption) rfl rfl rfl ?_)
      refine xo_nil ?_
      refine xq_seq ?_
      refine xc_ret ?_
    exact xq_retB (.inl rfl) Try.results18 rfl Kn.o0 rfl (List.sublist_append_right [_, _, _] _) ⟨rfl, rfl⟩
  · focus
      refine xc_seq ?_
      refine xc_region ?_
      refine xo_ef rfl (ef_box rfl fun r3 => ?_)
      refine xo_ef rfl (ef_box rfl fun r4 => ?_)
      refine xo_ef rfl (ef_alloc fun r6 => ?_)
      refine xo_nil ?_
      refine xq_seq ?_
      refine xc_seq ?_
      refine xc_region ?_
      refine xo_rd (rd_fieldAddr rfl) rfl ?_
      refine xo_ef rfl (ef_store1 [_] _ rfl rfl (by first | rfl | assumption) rfl rfl rfl ?_)
      refine xo_nil ?_
      refine xq_seq ?_
      refine xc_seq ?_
      refine xc_region ?_
      refine xo_rd (rd_fieldAddr rfl) rfl ?_
      refine xo_ef rfl (ef_store1 [_] _ rfl rfl (by first | rfl | assumption) rfl rfl rfl ?_)
      refine xo_nil ?_
      refine xq_seq ?_
      refine xc_seq ?_
      refine xc_seq ?_
      refine xc_region ?_
      refine xo_rd (rd_fieldAddr rfl) rfl ?_
      refine xo_rd (rd_load1 rfl (Cl.o2 rfl)) rfl ?_
      refine xo_nil ?_
      refine xq_seq ?_
      refine xc_condt rfl ?_
      refine xc_seq ?_
      refine xc_region ?_
      refine xo_rd (rd_fieldAddr rfl) rfl ?_
      refine xo_rd (rd_load1 rfl (Cl.o2 rfl)) rfl ?_
      refine xo_rd (rd_fieldAddr rfl) rfl ?_
      refine xo_ef rfl (ef_store1 [_] _ rfl rfl (by first | rfl | assumption) rfl rfl rfl ?_)
      refine xo_nil ?_
      refine xq_seq ?_
      refine xc_region ?_
      refine xo_rd (rd_fieldAddr rfl) rfl ?_
      refine xo_rd (rd_load1 rfl (Cl.o2 rfl)) rfl ?_
      refine xo_rd (rd_move rfl) rfl ?_
      refine xo_ef rfl (ef_call rfl (XF.mono (xf_rsince ti now hr hn) ?_))
      rintro v L' ⟨rfl, rfl⟩
      refine xo_ef rfl (ef_call rfl (XF.mono (xf_runits (sinceF ti now) hs) ?_))
      rintro v L' ⟨rfl, rfl⟩
      refine xo_rd (rd_fieldAddr rfl) rfl ?_
      refine xo_ef rfl (ef_store1 [_] _ rfl rfl (by first | rfl | assumption) rfl rfl rfl ?_)
      refine xo_nil ?_
      refine xq_seq ?_
      refine xc_seq ?_
      refine xc_region ?_
      refine xo_rd (rd_loadB rfl Kn.o1 (by rfl)) rfl ?_
      refine xo_ef rfl (ef_storeB [] _ rfl rfl (by first | rfl | assumption) rfl rfl rfl ?_)
      refine xo_nil ?_
      refine xq_seq ?_
      refine xc_ret ?_
    all_goals exact xq_retB (.inl rfl) Try.results18 rfl Kn.o0 rfl (List.sublist_append_right [_, _, _] _) ⟨rfl, rfl⟩
end
end Go.Proofs.Ytogilblilljpmaa.X
