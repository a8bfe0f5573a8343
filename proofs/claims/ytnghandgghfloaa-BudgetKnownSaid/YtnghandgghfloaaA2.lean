/-
  Which costs are right, what a plan costs, which plans are the same, how many cameras are off: walks of my own.
-/
import Derived.Test.YtnghandgghfloaaA1
namespace Go.Proofs.Ytnghandgghfloaa.X
open Go Go.RowKit
set_option linter.unusedVariables false
set_option linter.unusedSimpArgs false
section
variable {P : Program} {W : World} {n : Nat} {L : List Blk} {E : List (Nat × Value)} {d : Option Nat} {t : TypeId} {pos : String} {after : Array Edge} {g : Option (Nat × Bool)}
theorem rd_minM {T T' : Nat} {x y : Operand} {k : IntKind} {i j : Int} (hx : ev E x = some (.int k i)) (hy : ev E y = some (.int k j)) : RD P W n L E ⟨d, .call ⟨.builtin .min, #[x, y], #[T, T']⟩, t, pos, after, g⟩ (.int k (min i j)) := by
  have h := rd_min (P := P) (W := W) (n := n) (L := L) (d := d) (t := t) (pos := pos) (after := after) (g := g) (T := T) (T' := T') hx hy
  have e : (if j < i then j else i) = min i j := by split <;> omega
  rwa [e] at h
end
theorem xf_right {W : World} {L : List Blk} (p q : Option Addr) (n c m d : Nat) (ct cm : List Int) (hn : ct.length = n) (hm : cm.length = m) (hr : Rs W L p (ints .u64 ct)) (hb : n ≤ 9223372036854775807) (hb2 : m ≤ 9223372036854775807) :
    XF Try.prog W 14 #[.agg #[.slice p n c, .slice q m d]] L (fun v L' => (∃ b, v = .bool b ∧ (b = true ↔ Rgt ct cm)) ∧ L' = L) := by
  have hf : ∀ {b : Prop}, ¬ b → ((false = true) ↔ b) := fun h => by simp [h]
  have ht : ∀ {b : Prop}, b → ((true = true) ↔ b) := fun h => by simp [h]
  refine xf_enter (args := [_]) Try.func14 rfl Try.ntmps14 rfl ?_
  by_cases h0 : n = 0
  · skip
    focus
      refine xc_seq ?_
      refine xc_region ?_
      refine xo_ef rfl (ef_box rfl fun r1 => ?_)
      refine xo_rd (rd_assign rfl) rfl ?_
      refine xo_nil ?_
      refine xq_seq ?_
      refine xc_seq ?_
      refine xc_region ?_
      refine xo_rd (rd_fieldAddr rfl) rfl ?_
      refine xo_rd (rd_load1 rfl (Cl.o0 rfl)) rfl ?_
      refine xo_rd (rd_assign rfl) rfl ?_
      refine xo_nil ?_
      refine xq_seq ?_
      refine xc_seq ?_
      refine xc_region ?_
      refine xo_rd (rd_move rfl) rfl ?_
      refine xo_rd (rd_len rfl) rfl ?_
      refine xo_rd (rd_leq rfl rfl) rfl ?_
      refine xo_rd (rd_move rfl) rfl ?_
      refine xo_dec 9 rfl (fun hz1 => ?_) (fun hz1 => (by exfalso; omega))
      refine xo_grd rfl rfl (rd_fieldAddr rfl) rfl ?_
      refine xo_grd rfl rfl (rd_load1 rfl (Cl.o0 rfl)) rfl ?_
      refine xo_grd rfl rfl (rd_len rfl) rfl ?_
      refine xo_grd rfl rfl (rd_leq rfl rfl) rfl ?_
      refine xo_rd (rd_pickt rfl rfl) rfl ?_
      refine xo_rd (rd_move rfl) rfl ?_
      refine xo_dec 15 rfl (fun hz2 => ?_) (fun hz2 => ?_)
      refine xo_grd rfl rfl (rd_move rfl) rfl ?_
      refine xo_gef rfl rfl rfl (ef_call rfl (XF.mono (xf_sorted p n c ct hn hr.skip hb) ?_))
      rintro v L' ⟨⟨b, rfl, hs⟩, rfl⟩
      refine xo_rd (rd_pickt rfl rfl) rfl ?_
      refine xo_rd (rd_move rfl) rfl ?_
      refine xo_split 19 rfl (fun hz3 => ?_) (fun hz3 => ?_)
      refine xo_grd rfl rfl (rd_move rfl) rfl ?_
      refine xo_grd rfl rfl (rd_len rfl) rfl ?_
      refine xo_grd rfl rfl (rd_eql rfl rfl) rfl ?_
      refine xo_grd rfl rfl (rd_move rfl) rfl ?_
      refine xo_dec 23 rfl (fun hz4 => ?_) (fun hz4 => (by exfalso; omega))
      refine xo_gskip rfl rfl rfl rfl ?_
      refine xo_gskip rfl rfl rfl rfl ?_
      refine xo_gskip rfl rfl rfl rfl ?_
      refine xo_gskip rfl rfl rfl rfl ?_
      refine xo_grd rfl rfl (rd_pickt rfl rfl) rfl ?_
      refine xo_rd (rd_pickt rfl rfl) rfl ?_
      refine xo_rd (rd_assign rfl) rfl ?_
      refine xo_nil ?_
      refine xq_seq ?_
      refine xc_ret ?_
      rotate_left
      refine xo_gskip rfl rfl rfl rfl ?_
      refine xo_gskip rfl rfl rfl rfl ?_
      refine xo_gskip rfl rfl rfl rfl ?_
      refine xo_gskip rfl rfl rfl rfl ?_
      refine xo_gskipU rfl rfl rfl ?_
      refine xo_gskipU rfl rfl rfl ?_
      refine xo_gskipU rfl rfl rfl ?_
      refine xo_gskipU rfl rfl rfl ?_
      refine xo_gskip rfl rfl rfl rfl ?_
      refine xo_rd (rd_pickf rfl rfl) rfl ?_
      refine xo_rd (rd_assign rfl) rfl ?_
      refine xo_nil ?_
      refine xq_seq ?_
      refine xc_ret ?_
      rotate_left
      refine xo_gskip rfl rfl rfl rfl ?_
      refine xo_gskip rfl rfl rfl rfl ?_
      refine xo_rd (rd_pickf rfl rfl) rfl ?_
      refine xo_rd (rd_move rfl) rfl ?_
      refine xo_gskip rfl rfl rfl rfl ?_
      refine xo_gskip rfl rfl rfl rfl ?_
      refine xo_gskip rfl rfl rfl rfl ?_
      refine xo_gskip rfl rfl rfl rfl ?_
      refine xo_gskipU rfl rfl rfl ?_
      refine xo_gskipU rfl rfl rfl ?_
      refine xo_gskipU rfl rfl rfl ?_
      refine xo_gskipU rfl rfl rfl ?_
      refine xo_gskip rfl rfl rfl rfl ?_
      refine xo_rd (rd_pickf rfl rfl) rfl ?_
      refine xo_rd (rd_assign rfl) rfl ?_
      refine xo_nil ?_
      refine xq_seq ?_
      refine xc_ret ?_
      rotate_left
    · exact xq_sub (L' := L) (List.sublist_cons_self _ _) (xq_ret1 (.inl rfl) Try.results14 rfl ⟨⟨true, rfl, ht ⟨by omega, by omega, hs.1 hz3, fun h => by omega⟩⟩, rfl⟩)
    · exact xq_sub (L' := L) (List.sublist_cons_self _ _) (xq_ret1 (.inl rfl) Try.results14 rfl ⟨⟨false, rfl, hf fun h => by rw [hs.2 h.2.2.1] at hz3; cases hz3⟩, rfl⟩)
    · exact xq_sub (L' := L) (List.sublist_cons_self _ _) (xq_ret1 (.inl rfl) Try.results14 rfl ⟨⟨false, rfl, hf fun h => by have := h.2.1; omega⟩, rfl⟩)
  · obtain ⟨b1, o1, rfl, hc⟩ := hr.int (i := 0) (by omega)
    focus
      refine xc_seq ?_
      refine xc_region ?_
      refine xo_ef rfl (ef_box rfl fun r1 => ?_)
      refine xo_rd (rd_assign rfl) rfl ?_
      refine xo_nil ?_
      refine xq_seq ?_
      refine xc_seq ?_
      refine xc_region ?_
      refine xo_rd (rd_fieldAddr rfl) rfl ?_
      refine xo_rd (rd_load1 rfl (Cl.o0 rfl)) rfl ?_
      refine xo_rd (rd_assign rfl) rfl ?_
      refine xo_nil ?_
      refine xq_seq ?_
      refine xc_seq ?_
      refine xc_region ?_
      refine xo_rd (rd_move rfl) rfl ?_
      refine xo_rd (rd_len rfl) rfl ?_
      refine xo_rd (rd_leq rfl rfl) rfl ?_
      refine xo_rd (rd_move rfl) rfl ?_
      refine xo_dec 9 rfl (fun hz1 => ?_) (fun hz1 => ?_)
      refine xo_grd rfl rfl (rd_fieldAddr rfl) rfl ?_
      refine xo_grd rfl rfl (rd_load1 rfl (Cl.o0 rfl)) rfl ?_
      refine xo_grd rfl rfl (rd_len rfl) rfl ?_
      refine xo_grd rfl rfl (rd_leq rfl rfl) rfl ?_
      refine xo_rd (rd_pickt rfl rfl) rfl ?_
      refine xo_rd (rd_move rfl) rfl ?_
      refine xo_dec 15 rfl (fun hz2 => ?_) (fun hz2 => ?_)
      refine xo_grd rfl rfl (rd_move rfl) rfl ?_
      refine xo_gef rfl rfl rfl (ef_call rfl (XF.mono (xf_sorted (some ⟨b1, o1, none⟩) n c ct hn hr.skip hb) ?_))
      rintro v L' ⟨⟨b, rfl, hs⟩, rfl⟩
      refine xo_rd (rd_pickt rfl rfl) rfl ?_
      refine xo_rd (rd_move rfl) rfl ?_
      refine xo_split 19 rfl (fun hz3 => ?_) (fun hz3 => ?_)
      refine xo_grd rfl rfl (rd_move rfl) rfl ?_
      refine xo_grd rfl rfl (rd_len rfl) rfl ?_
      refine xo_grd rfl rfl (rd_eql rfl rfl) rfl ?_
      refine xo_grd rfl rfl (rd_move rfl) rfl ?_
      refine xo_dec 23 rfl (fun hz4 => (by exfalso; omega)) (fun hz4 => ?_)
      refine xo_grd rfl rfl (rd_move rfl) rfl ?_
      refine xo_grd rfl rfl (rd_indexAddr rfl rfl (by omega) (by omega)) rfl ?_
      refine xo_grd rfl rfl (rd_load1 rfl hc.skip) rfl ?_
      refine xo_grd rfl rfl (rd_leq rfl rfl) rfl ?_
      refine xo_grd rfl rfl (rd_pickf rfl rfl) rfl ?_
      refine xo_rd (rd_pickt rfl rfl) rfl ?_
      refine xo_rd (rd_assign rfl) rfl ?_
      refine xo_nil ?_
      refine xq_seq ?_
      refine xc_ret ?_
      rotate_left
      refine xo_gskip rfl rfl rfl rfl ?_
      refine xo_gskip rfl rfl rfl rfl ?_
      refine xo_gskip rfl rfl rfl rfl ?_
      refine xo_gskip rfl rfl rfl rfl ?_
      refine xo_gskipU rfl rfl rfl ?_
      refine xo_gskipU rfl rfl rfl ?_
      refine xo_gskipU rfl rfl rfl ?_
      refine xo_gskipU rfl rfl rfl ?_
      refine xo_gskip rfl rfl rfl rfl ?_
      refine xo_rd (rd_pickf rfl rfl) rfl ?_
      refine xo_rd (rd_assign rfl) rfl ?_
      refine xo_nil ?_
      refine xq_seq ?_
      refine xc_ret ?_
      rotate_left
      refine xo_gskip rfl rfl rfl rfl ?_
      refine xo_gskip rfl rfl rfl rfl ?_
      refine xo_rd (rd_pickf rfl rfl) rfl ?_
      refine xo_rd (rd_move rfl) rfl ?_
      refine xo_gskip rfl rfl rfl rfl ?_
      refine xo_gskip rfl rfl rfl rfl ?_
      refine xo_gskip rfl rfl rfl rfl ?_
      refine xo_gskip rfl rfl rfl rfl ?_
      refine xo_gskipU rfl rfl rfl ?_
      refine xo_gskipU rfl rfl rfl ?_
      refine xo_gskipU rfl rfl rfl ?_
      refine xo_gskipU rfl rfl rfl ?_
      refine xo_gskip rfl rfl rfl rfl ?_
      refine xo_rd (rd_pickf rfl rfl) rfl ?_
      refine xo_rd (rd_assign rfl) rfl ?_
      refine xo_nil ?_
      refine xq_seq ?_
      refine xc_ret ?_
      rotate_left
      refine xo_gskip rfl rfl rfl rfl ?_
      refine xo_gskip rfl rfl rfl rfl ?_
      refine xo_gskip rfl rfl rfl rfl ?_
      refine xo_gskip rfl rfl rfl rfl ?_
      refine xo_rd (rd_pickf rfl rfl) rfl ?_
      refine xo_rd (rd_move rfl) rfl ?_
      refine xo_gskip rfl rfl rfl rfl ?_
      refine xo_gskip rfl rfl rfl rfl ?_
      refine xo_rd (rd_pickf rfl rfl) rfl ?_
      refine xo_rd (rd_move rfl) rfl ?_
      refine xo_gskip rfl rfl rfl rfl ?_
      refine xo_gskip rfl rfl rfl rfl ?_
      refine xo_gskip rfl rfl rfl rfl ?_
      refine xo_gskip rfl rfl rfl rfl ?_
      refine xo_gskipU rfl rfl rfl ?_
      refine xo_gskipU rfl rfl rfl ?_
      refine xo_gskipU rfl rfl rfl ?_
      refine xo_gskipU rfl rfl rfl ?_
      refine xo_gskip rfl rfl rfl rfl ?_
      refine xo_rd (rd_pickf rfl rfl) rfl ?_
      refine xo_rd (rd_assign rfl) rfl ?_
      refine xo_nil ?_
      refine xq_seq ?_
      refine xc_ret ?_
      rotate_left
    · exact xq_sub (L' := L) (List.sublist_cons_self _ _) (xq_ret1 (.inl rfl) Try.results14 rfl ⟨⟨decide (ct[0]'(by omega) ≤ 1500), rfl, by rw [decide_eq_true_iff]; exact ⟨fun h => ⟨by omega, by omega, hs.1 hz3, fun _ => h⟩, fun h => h.2.2.2 (by omega)⟩⟩, rfl⟩)
    · exact xq_sub (L' := L) (List.sublist_cons_self _ _) (xq_ret1 (.inl rfl) Try.results14 rfl ⟨⟨false, rfl, hf fun h => by rw [hs.2 h.2.2.1] at hz3; cases hz3⟩, rfl⟩)
    · exact xq_sub (L' := L) (List.sublist_cons_self _ _) (xq_ret1 (.inl rfl) Try.results14 rfl ⟨⟨false, rfl, hf fun h => by have := h.2.1; omega⟩, rfl⟩)
    · exact xq_sub (L' := L) (List.sublist_cons_self _ _) (xq_ret1 (.inl rfl) Try.results14 rfl ⟨⟨false, rfl, hf fun h => by have := h.1; omega⟩, rfl⟩)
theorem xf_few {W : World} {L : List Blk} (p q : Option Addr) (n c m d : Nat) (hb : n ≤ 9223372036854775807) (hb2 : m ≤ 9223372036854775807) : XF Try.prog W 7 #[.agg #[.slice p n c, .slice q m d]] L (fun v L' => (∃ b, v = .bool b ∧ (b = true ↔ (n ≤ 8 ∧ m ≤ 40))) ∧ L' = L) := by
  refine xf_enter (args := [_]) Try.func7 rfl Try.ntmps7 rfl ?_
  focus
    refine xc_seq ?_
    refine xc_region ?_
    refine xo_ef rfl (ef_box rfl fun r1 => ?_)
    refine xo_rd (rd_assign rfl) rfl ?_
    refine xo_nil ?_
    refine xq_seq ?_
    refine xc_seq ?_
    refine xc_region ?_
    refine xo_rd (rd_fieldAddr rfl) rfl ?_
    refine xo_rd (rd_load1 rfl (Cl.o0 rfl)) rfl ?_
    refine xo_rd (rd_len rfl) rfl ?_
    refine xo_rd (rd_leq rfl rfl) rfl ?_
    refine xo_rd (rd_move rfl) rfl ?_
    refine xo_dec 7 rfl (fun hz1 => ?_) (fun hz1 => ?_)
    refine xo_grd rfl rfl (rd_fieldAddr rfl) rfl ?_
    refine xo_grd rfl rfl (rd_load1 rfl (Cl.o0 rfl)) rfl ?_
    refine xo_grd rfl rfl (rd_len rfl) rfl ?_
    refine xo_grd rfl rfl (rd_leq rfl rfl) rfl ?_
    refine xo_rd (rd_pickt rfl rfl) rfl ?_
    refine xo_rd (rd_assign rfl) rfl ?_
    refine xo_nil ?_
    refine xq_seq ?_
    refine xc_ret ?_
    rotate_left
    refine xo_gskip rfl rfl rfl rfl ?_
    refine xo_gskip rfl rfl rfl rfl ?_
    refine xo_gskip rfl rfl rfl rfl ?_
    refine xo_gskip rfl rfl rfl rfl ?_
    refine xo_rd (rd_pickf rfl rfl) rfl ?_
    refine xo_rd (rd_assign rfl) rfl ?_
    refine xo_nil ?_
    refine xq_seq ?_
    refine xc_ret ?_
    rotate_left
  · exact xq_sub (L' := L) (List.sublist_cons_self _ _) (xq_ret1 (.inl rfl) Try.results7 rfl ⟨⟨_, rfl, by rw [decide_eq_true_iff]; omega⟩, rfl⟩)
  · exact xq_sub (L' := L) (List.sublist_cons_self _ _) (xq_ret1 (.inl rfl) Try.results7 rfl ⟨⟨false, rfl, by simp; omega⟩, rfl⟩)
theorem xf_of {W : World} {L : List Blk} (p q s : Option Addr) (n c m d k e : Nat) (ct cm : List Int) (cap : Int) (on : List Bool) (hn : ct.length = n) (hm : cm.length = m) (hk : on.length = k) (hr : Rs W L p (ints .u64 ct)) (hq : Rs W L q (ints .u64 cm)) (hs : Rs W L s (bls on)) (hU : ∀ x, x ∈ ct → U x) (hU2 : ∀ x, x ∈ cm → U x) (hb : n ≤ 1000) (hb2 : m ≤ 1000) (hb3 : k ≤ 9223372036854775807) :
    XF Try.prog W 15 #[.agg #[.slice p n c, .slice q m d], .agg #[.int .i64 cap, .slice s k e]] L (fun v L' => v = .int .u64 (costC ct cm cap on) ∧ L' = L) := by
  refine xf_enter (args := [_, _]) Try.func15 rfl Try.ntmps15 rfl ?_
  focus
    refine xc_seq ?_
    refine xc_region ?_
    refine xo_ef rfl (ef_box rfl fun r2 => ?_)
    refine xo_ef rfl (ef_box rfl fun r3 => ?_)
    refine xo_rd (rd_assign rfl) rfl ?_
    refine xo_nil ?_
    refine xq_seq ?_
  refine xc_join (ι := Unit) (fun _ => True) (fun _ => (r3, .cells #[.int .i64 cap, .slice s k e] 36 (0, 0)) :: (r2, .cells #[.slice p n c, .slice q m d] 25 (0, 0)) :: L) (fun _ => [(2, .pointer (some ⟨r2, 0, none⟩)), (3, .pointer (some ⟨r3, 0, none⟩)), (4, .int .u64 (baseC ct cap))]) ?_ ?_
  · by_cases hz : 0 ≤ min cap ((n : Int) - 1)
    · have hi : (min cap ((n : Int) - 1)).toNat < ct.length := by omega
      have hbase : baseC ct cap = ct[(min cap ((n : Int) - 1)).toNat] := by
        unfold baseC
        rw [if_pos (by omega), hn, List.getD_eq_getElem?_getD, List.getElem?_eq_getElem hi, Option.getD_some]
      obtain ⟨b, o, rfl, hc⟩ := hr.int hi
      rw [← hbase] at hc
      focus
        refine xc_seq ?_
        refine xc_region ?_
        refine xo_rd (rd_fieldAddr rfl) rfl ?_
        refine xo_rd (rd_load1 rfl (Cl.o0 rfl)) rfl ?_
        refine xo_rd (rd_fieldAddr rfl) rfl ?_
        refine xo_rd (rd_load1 rfl (Cl.o1 rfl)) rfl ?_
        refine xo_rd (rd_len rfl) rfl ?_
        refine xo_rd (rd_subn rfl rfl (by omega) (by omega)) rfl ?_
        refine xo_rd (rd_minM rfl rfl) rfl ?_
        refine xo_rd (rd_assign rfl) rfl ?_
        refine xo_nil ?_
        refine xq_seq ?_
        refine xc_seq ?_
        refine xc_region ?_
        refine xo_rd (rd_move rfl) rfl ?_
        refine xo_rd (rd_geq rfl rfl) rfl ?_
        refine xo_nil ?_
        refine xq_seq ?_
        refine xc_dec rfl (fun h1 => ?_) (fun h1 => (by exfalso; omega))
        refine xc_region ?_
        refine xo_rd (rd_fieldAddr rfl) rfl ?_
        refine xo_rd (rd_load1 rfl (Cl.o1 rfl)) rfl ?_
        refine xo_rd (rd_move rfl) rfl ?_
        refine xo_rd (rd_indexAddr rfl rfl (by omega) (by omega)) rfl ?_
        refine xo_rd (rd_load1 rfl hc.skip.skip) rfl ?_
        refine xo_rd (rd_assign rfl) rfl ?_
        refine xo_nil ?_
      exact xq_joined () trivial rfl (by repeat (first | exact keep_nil | refine keep_cons rfl ?_))
    · have hbase : baseC ct cap = 0 := by unfold baseC; rw [if_neg (by omega)]
      rw [hbase]
      focus
        refine xc_seq ?_
        refine xc_region ?_
        refine xo_rd (rd_fieldAddr rfl) rfl ?_
        refine xo_rd (rd_load1 rfl (Cl.o0 rfl)) rfl ?_
        refine xo_rd (rd_fieldAddr rfl) rfl ?_
        refine xo_rd (rd_load1 rfl (Cl.o1 rfl)) rfl ?_
        refine xo_rd (rd_len rfl) rfl ?_
        refine xo_rd (rd_subn rfl rfl (by omega) (by omega)) rfl ?_
        refine xo_rd (rd_minM rfl rfl) rfl ?_
        refine xo_rd (rd_assign rfl) rfl ?_
        refine xo_nil ?_
        refine xq_seq ?_
        refine xc_seq ?_
        refine xc_region ?_
        refine xo_rd (rd_move rfl) rfl ?_
        refine xo_rd (rd_geq rfl rfl) rfl ?_
        refine xo_nil ?_
        refine xq_seq ?_
        refine xc_dec rfl (fun h1 => (by exfalso; omega)) (fun h1 => ?_)
        refine xc_skip ?_
      exact xq_joined () trivial rfl (by repeat (first | exact keep_nil | refine keep_cons rfl ?_))
  · rintro _ _
    have hU0 := base_U hU cap
    focus
      refine xc_seq ?_
      refine xc_seq ?_
      refine xc_region ?_
      refine xo_rd (rd_fieldAddr rfl) rfl ?_
      refine xo_rd (rd_load1 rfl (Cl.o1 rfl)) rfl ?_
      refine xo_rd (rd_len rfl) rfl ?_
      refine xo_rd (rd_move rfl) rfl ?_
      refine xo_nil ?_
      refine xq_seq ?_
      refine xc_block ?_
    refine xc_loopI (ι := Nat) (fun i => i ≤ m) (fun i => m - i) (fun _ => (r3, .cells #[.int .i64 cap, .slice s k e] 36 (0, 0)) :: (r2, .cells #[.slice p n c, .slice q m d] 25 (0, 0)) :: L) (fun i => [(2, .pointer (some ⟨r2, 0, none⟩)), (3, .pointer (some ⟨r3, 0, none⟩)), (4, .int .u64 (sumC (baseC ct cap) ((cm.zip on).take i))), (23, .slice q m d), (24, .int .i64 m), (25, .int .i64 i)]) 0 (Nat.zero_le _) rfl (by repeat (first | exact keep_nil | refine keep_cons rfl ?_)) ?_
    rintro i hi
    focus
      refine xc_seq ?_
      refine xc_region ?_
      refine xo_rd (rd_lss rfl rfl) rfl ?_
      refine xo_nil ?_
      refine xq_seq ?_
      refine xc_seq ?_
      refine xc_dec rfl (fun hi1 => ?_) (fun hi1 => ?_)
      refine xc_skip ?_
      refine xq_seq ?_
      refine xc_seq ?_
      refine xc_block ?_
      refine xc_seq ?_
      refine xc_region ?_
      refine xo_rd (rd_move rfl) rfl ?_
      rotate_left
      refine xc_exit ?_
      refine xq_then_exit ?_
      refine xq_then_exit ?_
      refine xq_block_hit ?_
      refine xq_seq ?_
      refine xc_seq ?_
      refine xc_region ?_
      refine xo_rd (rd_move rfl) rfl ?_
      refine xo_rd (rd_assign rfl) rfl ?_
      refine xo_nil ?_
      refine xq_seq ?_
      refine xc_ret ?_
      rotate_left
    · have him : i < cm.length := by omega
      obtain ⟨b, o, rfl, hc⟩ := hq.int him
      have hUi := hU2 cm[i] (List.getElem_mem _)
      have hUs : U (sumC (baseC ct cap) ((cm.zip on).take i)) := sumC_U hU0 _ fun z hz => hU2 _ (List.of_mem_zip (List.mem_of_mem_take hz)).1
      by_cases hik : i < on.length
      · obtain ⟨b2, o2, rfl, hc2⟩ := hs.bool hik
        have hlz : i < (cm.zip on).length := by rw [List.length_zip]; omega
        have ht : (cm.zip on).take (i + 1) = (cm.zip on).take i ++ [(cm[i], on[i])] := by
          rw [List.take_add_one, List.getElem?_eq_getElem hlz, List.getElem_zip]; rfl
        have hsn := sumC_snoc (baseC ct cap) ((cm.zip on).take i) (cm[i], on[i])
        rw [← ht] at hsn
        focus
          refine xo_rd (rd_indexAddr rfl rfl (by omega) (by omega)) rfl ?_
          refine xo_rd (rd_load1 rfl hc.skip.skip) rfl ?_
          refine xo_rd (rd_assign rfl) rfl ?_
          refine xo_rd (rd_assign rfl) rfl ?_
          refine xo_nil ?_
          refine xq_seq ?_
          refine xc_seq ?_
          refine xc_region ?_
          refine xo_rd (rd_move rfl) rfl ?_
          refine xo_rd (rd_fieldAddr rfl) rfl ?_
          refine xo_rd (rd_load1 rfl (Cl.o0 rfl)) rfl ?_
          refine xo_rd (rd_len rfl) rfl ?_
          refine xo_rd (rd_lss rfl rfl) rfl ?_
          refine xo_rd (rd_move rfl) rfl ?_
          refine xo_dec 35 rfl (fun hz1 => ?_) (fun hz1 => (by exfalso; omega))
          refine xo_grd rfl rfl (rd_fieldAddr rfl) rfl ?_
          refine xo_grd rfl rfl (rd_load1 rfl (Cl.o0 rfl)) rfl ?_
          refine xo_grd rfl rfl (rd_move rfl) rfl ?_
          refine xo_grd rfl rfl (rd_indexAddr rfl rfl (by omega) (by omega)) rfl ?_
          refine xo_grd rfl rfl (rd_load1 rfl hc2.skip.skip) rfl ?_
          refine xo_rd (rd_pickt rfl rfl) rfl ?_
          refine xo_nil ?_
          refine xq_seq ?_
          refine xc_cond rfl (fun hz2 => ?_) (fun hz2 => ?_)
          refine xc_region ?_
          refine xo_rd (rd_move rfl) rfl ?_
          refine xo_rd (rd_move rfl) rfl ?_
          refine xo_ef rfl (ef_call rfl (XF.mono (xf_add _ _ hUs hUi) ?_))
          rintro v L' ⟨rfl, rfl⟩
          refine xo_rd (rd_assign rfl) rfl ?_
          refine xo_nil ?_
          refine xq_block ?_
          refine xq_seq ?_
          refine xc_region ?_
          refine xo_rd (rd_addn rfl rfl (by omega) (by omega)) rfl ?_
          refine xo_rd (rd_move rfl) rfl ?_
          refine xo_nil ?_
          rotate_left
          refine xc_skip ?_
          refine xq_block ?_
          refine xq_seq ?_
          refine xc_region ?_
          refine xo_rd (rd_addn rfl rfl (by omega) (by omega)) rfl ?_
          refine xo_rd (rd_move rfl) rfl ?_
          refine xo_nil ?_
          rotate_left
        · have e1 : sat (sumC (baseC ct cap) ((cm.zip on).take i)) cm[i] = sumC (baseC ct cap) ((cm.zip on).take (i + 1)) := by
            rw [hsn]; exact (if_pos (by assumption)).symm
          rw [e1]
          exact xq_roundI (i + 1) (by omega) (by omega) rfl (by repeat (first | exact keep_nil | refine keep_cons rfl ?_))
        · have e1 : sumC (baseC ct cap) ((cm.zip on).take i) = sumC (baseC ct cap) ((cm.zip on).take (i + 1)) := by
            rw [hsn]; exact (if_neg (by simp [*])).symm
          rw [e1]
          exact xq_roundI (i + 1) (by omega) (by omega) rfl (by repeat (first | exact keep_nil | refine keep_cons rfl ?_))
      · have ht : (cm.zip on).take (i + 1) = (cm.zip on).take i := by
          rw [List.take_of_length_le (by rw [List.length_zip]; omega), List.take_of_length_le (by rw [List.length_zip]; omega)]
        focus
          refine xo_rd (rd_indexAddr rfl rfl (by omega) (by omega)) rfl ?_
          refine xo_rd (rd_load1 rfl hc.skip.skip) rfl ?_
          refine xo_rd (rd_assign rfl) rfl ?_
          refine xo_rd (rd_assign rfl) rfl ?_
          refine xo_nil ?_
          refine xq_seq ?_
          refine xc_seq ?_
          refine xc_region ?_
          refine xo_rd (rd_move rfl) rfl ?_
          refine xo_rd (rd_fieldAddr rfl) rfl ?_
          refine xo_rd (rd_load1 rfl (Cl.o0 rfl)) rfl ?_
          refine xo_rd (rd_len rfl) rfl ?_
          refine xo_rd (rd_lss rfl rfl) rfl ?_
          refine xo_rd (rd_move rfl) rfl ?_
          refine xo_dec 35 rfl (fun hz1 => (by exfalso; omega)) (fun hz1 => ?_)
          refine xo_gskip rfl rfl rfl rfl ?_
          refine xo_gskip rfl rfl rfl rfl ?_
          refine xo_gskip rfl rfl rfl rfl ?_
          refine xo_gskip rfl rfl rfl rfl ?_
          refine xo_gskip rfl rfl rfl rfl ?_
          refine xo_rd (rd_pickf rfl rfl) rfl ?_
          refine xo_nil ?_
          refine xq_seq ?_
          refine xc_condf rfl ?_
          refine xc_skip ?_
          refine xq_block ?_
          refine xq_seq ?_
          refine xc_region ?_
          refine xo_rd (rd_addn rfl rfl (by omega) (by omega)) rfl ?_
          refine xo_rd (rd_move rfl) rfl ?_
          refine xo_nil ?_
        rw [← ht]
        exact xq_roundI (i + 1) (by omega) (by omega) rfl (by repeat (first | exact keep_nil | refine keep_cons rfl ?_))
    · have hall : (cm.zip on).take i = cm.zip on := List.take_of_length_le (by rw [List.length_zip]; omega)
      rw [hall]
      exact xq_sub (L' := L) ((List.sublist_cons_self _ _).trans (List.sublist_cons_self _ _)) (xq_ret1 (.inl rfl) Try.results15 rfl ⟨rfl, rfl⟩)
theorem xf_rcost {W : World} {L : List Blk} (p q s : Option Addr) (n c m d k e : Nat) (ct cm : List Int) (cap : Int) (on : List Bool) (hn : ct.length = n) (hm : cm.length = m) (hk : on.length = k) (hr : Rs W L p (ints .u64 ct)) (hq : Rs W L q (ints .u64 cm)) (hs : Rs W L s (bls on)) (hU : ∀ x, x ∈ ct → U x) (hU2 : ∀ x, x ∈ cm → U x) (hb : n ≤ 1000) (hb2 : m ≤ 1000) (hb3 : k ≤ 9223372036854775807) :
    XF Try.prog W 18 #[.agg #[.slice p n c, .slice q m d], .agg #[.int .i64 cap, .slice s k e]] L (fun v L' => v = .int .u64 (costC ct cm cap on) ∧ L' = L) := by
  refine xf_enter (args := [_, _]) Try.func18 rfl Try.ntmps18 rfl ?_
  focus
    refine xc_seq ?_
    refine xc_region ?_
    refine xo_ef rfl (ef_box rfl fun r2 => ?_)
    refine xo_ef rfl (ef_box rfl fun r3 => ?_)
    refine xo_rd (rd_assign rfl) rfl ?_
    refine xo_nil ?_
    refine xq_seq ?_
    refine xc_seq ?_
    refine xc_region ?_
    refine xo_rd (rd_assign rfl) rfl ?_
    refine xo_nil ?_
    refine xq_seq ?_
  refine xc_join (ι := Unit) (fun _ => True) (fun _ => (r3, .cells #[.int .i64 cap, .slice s k e] 32 (0, 0)) :: (r2, .cells #[.slice p n c, .slice q m d] 28 (0, 0)) :: L) (fun _ => [(2, .pointer (some ⟨r2, 0, none⟩)), (3, .pointer (some ⟨r3, 0, none⟩)), (5, .int .u64 (baseC ct cap))]) ?_ ?_
  · by_cases hz : 0 ≤ cap ∧ 0 < n
    · have hi : (min cap ((n : Int) - 1)).toNat < ct.length := by omega
      have hbase : baseC ct cap = ct[(min cap ((n : Int) - 1)).toNat] := by
        unfold baseC
        rw [if_pos (by omega), hn, List.getD_eq_getElem?_getD, List.getElem?_eq_getElem hi, Option.getD_some]
      obtain ⟨b, o, rfl, hc⟩ := hr.int hi
      rw [← hbase] at hc
      focus
        refine xc_seq ?_
        refine xc_region ?_
        refine xo_rd (rd_fieldAddr rfl) rfl ?_
        refine xo_rd (rd_load1 rfl (Cl.o0 rfl)) rfl ?_
        refine xo_rd (rd_geq rfl rfl) rfl ?_
        refine xo_rd (rd_move rfl) rfl ?_
        refine xo_dec 11 rfl (fun h1 => ?_) (fun h1 => (by exfalso; omega))
        refine xo_grd rfl rfl (rd_fieldAddr rfl) rfl ?_
        refine xo_grd rfl rfl (rd_load1 rfl (Cl.o1 rfl)) rfl ?_
        refine xo_grd rfl rfl (rd_len rfl) rfl ?_
        refine xo_grd rfl rfl (rd_gtr rfl rfl) rfl ?_
        refine xo_rd (rd_pickt rfl rfl) rfl ?_
        refine xo_nil ?_
        refine xq_seq ?_
        refine xc_dec rfl (fun h2 => ?_) (fun h2 => (by exfalso; omega))
        refine xc_region ?_
        refine xo_rd (rd_fieldAddr rfl) rfl ?_
        refine xo_rd (rd_load1 rfl (Cl.o1 rfl)) rfl ?_
        refine xo_rd (rd_fieldAddr rfl) rfl ?_
        refine xo_rd (rd_load1 rfl (Cl.o0 rfl)) rfl ?_
        refine xo_rd (rd_fieldAddr rfl) rfl ?_
        refine xo_rd (rd_load1 rfl (Cl.o1 rfl)) rfl ?_
        refine xo_rd (rd_len rfl) rfl ?_
        refine xo_rd (rd_subn rfl rfl (by omega) (by omega)) rfl ?_
        refine xo_rd (rd_minM rfl rfl) rfl ?_
        refine xo_rd (rd_indexAddr rfl rfl (by omega) (by omega)) rfl ?_
        refine xo_rd (rd_load1 rfl hc.skip.skip) rfl ?_
        refine xo_rd (rd_assign rfl) rfl ?_
        refine xo_nil ?_
      exact xq_joined () trivial rfl (by repeat (first | exact keep_nil | refine keep_cons rfl ?_))
    · have hbase : baseC ct cap = 0 := by unfold baseC; rw [if_neg (by omega)]
      rw [hbase]
      focus
        refine xc_seq ?_
        refine xc_region ?_
        refine xo_rd (rd_fieldAddr rfl) rfl ?_
        refine xo_rd (rd_load1 rfl (Cl.o0 rfl)) rfl ?_
        refine xo_rd (rd_geq rfl rfl) rfl ?_
        refine xo_rd (rd_move rfl) rfl ?_
        refine xo_dec 11 rfl (fun h1 => ?_) (fun h1 => ?_)
        refine xo_grd rfl rfl (rd_fieldAddr rfl) rfl ?_
        refine xo_grd rfl rfl (rd_load1 rfl (Cl.o1 rfl)) rfl ?_
        refine xo_grd rfl rfl (rd_len rfl) rfl ?_
        refine xo_grd rfl rfl (rd_gtr rfl rfl) rfl ?_
        refine xo_rd (rd_pickt rfl rfl) rfl ?_
        refine xo_nil ?_
        refine xq_seq ?_
        refine xc_dec rfl (fun h2 => (by exfalso; omega)) (fun h2 => ?_)
        refine xc_skip ?_
        rotate_left
        refine xo_gskip rfl rfl rfl rfl ?_
        refine xo_gskip rfl rfl rfl rfl ?_
        refine xo_gskip rfl rfl rfl rfl ?_
        refine xo_gskip rfl rfl rfl rfl ?_
        refine xo_rd (rd_pickf rfl rfl) rfl ?_
        refine xo_nil ?_
        refine xq_seq ?_
        refine xc_condf rfl ?_
        refine xc_skip ?_
        rotate_left
      all_goals exact xq_joined () trivial rfl (by repeat (first | exact keep_nil | refine keep_cons rfl ?_))
  · rintro _ _
    have hU0 := base_U hU cap
    focus
      refine xc_seq ?_
      refine xc_seq ?_
      refine xc_region ?_
      refine xo_rd (rd_assign rfl) rfl ?_
      refine xo_nil ?_
      refine xq_seq ?_
      refine xc_block ?_
    refine xc_loopI (ι := Nat) (fun i => i ≤ m) (fun i => m - i) (fun _ => (r3, .cells #[.int .i64 cap, .slice s k e] 32 (0, 0)) :: (r2, .cells #[.slice p n c, .slice q m d] 28 (0, 0)) :: L) (fun i => [(2, .pointer (some ⟨r2, 0, none⟩)), (3, .pointer (some ⟨r3, 0, none⟩)), (5, .int .u64 (sumC (baseC ct cap) ((cm.zip on).take i))), (6, .int .i64 i)]) 0 (Nat.zero_le _) rfl (by repeat (first | exact keep_nil | refine keep_cons rfl ?_)) ?_
    rintro i hi
    by_cases him : i < cm.length
    · by_cases hik : i < on.length
      · obtain ⟨b, o, rfl, hc⟩ := hq.int him
        have hUi := hU2 cm[i] (List.getElem_mem _)
        have hUs : U (sumC (baseC ct cap) ((cm.zip on).take i)) := sumC_U hU0 _ fun z hz => hU2 _ (List.of_mem_zip (List.mem_of_mem_take hz)).1
        obtain ⟨b2, o2, rfl, hc2⟩ := hs.bool hik
        have hlz : i < (cm.zip on).length := by rw [List.length_zip]; omega
        have ht : (cm.zip on).take (i + 1) = (cm.zip on).take i ++ [(cm[i], on[i])] := by
          rw [List.take_add_one, List.getElem?_eq_getElem hlz, List.getElem_zip]; rfl
        have hsn := sumC_snoc (baseC ct cap) ((cm.zip on).take i) (cm[i], on[i])
        rw [← ht] at hsn
        focus
          refine xc_seq ?_
          refine xc_seq ?_
          refine xc_region ?_
          refine xo_rd (rd_move rfl) rfl ?_
          refine xo_rd (rd_fieldAddr rfl) rfl ?_
          refine xo_rd (rd_load1 rfl (Cl.o1 rfl)) rfl ?_
          refine xo_rd (rd_len rfl) rfl ?_
          refine xo_rd (rd_lss rfl rfl) rfl ?_
          refine xo_rd (rd_move rfl) rfl ?_
          refine xo_dec 33 rfl (fun hz1 => ?_) (fun hz1 => (by exfalso; omega))
          refine xo_grd rfl rfl (rd_move rfl) rfl ?_
          refine xo_grd rfl rfl (rd_fieldAddr rfl) rfl ?_
          refine xo_grd rfl rfl (rd_load1 rfl (Cl.o0 rfl)) rfl ?_
          refine xo_grd rfl rfl (rd_len rfl) rfl ?_
          refine xo_grd rfl rfl (rd_lss rfl rfl) rfl ?_
          refine xo_rd (rd_pickt rfl rfl) rfl ?_
          refine xo_nil ?_
          refine xq_seq ?_
          refine xc_dec rfl (fun hz2 => ?_) (fun hz2 => (by exfalso; omega))
          refine xc_skip ?_
          refine xq_seq ?_
          refine xc_seq ?_
          refine xc_block ?_
          refine xc_seq ?_
          refine xc_region ?_
          refine xo_rd (rd_fieldAddr rfl) rfl ?_
          refine xo_rd (rd_load1 rfl (Cl.o0 rfl)) rfl ?_
          refine xo_rd (rd_move rfl) rfl ?_
          refine xo_rd (rd_indexAddr rfl rfl (by omega) (by omega)) rfl ?_
          refine xo_rd (rd_load1 rfl hc2.skip.skip) rfl ?_
          refine xo_nil ?_
          refine xq_seq ?_
          refine xc_cond rfl (fun hz3 => ?_) (fun hz3 => ?_)
          refine xc_seq ?_
          refine xc_region ?_
          refine xo_rd (rd_move rfl) rfl ?_
          refine xo_rd (rd_fieldAddr rfl) rfl ?_
          refine xo_rd (rd_load1 rfl (Cl.o1 rfl)) rfl ?_
          refine xo_rd (rd_move rfl) rfl ?_
          refine xo_rd (rd_indexAddr rfl rfl (by omega) (by omega)) rfl ?_
          refine xo_rd (rd_load1 rfl hc.skip.skip) rfl ?_
          refine xo_rd (rd_add rfl rfl) rfl ?_
          refine xo_rd (rd_assign rfl) rfl ?_
          refine xo_nil ?_
          refine xq_seq ?_
          refine xc_seq ?_
          refine xc_seq ?_
          refine xc_region ?_
          refine xo_rd (rd_move rfl) rfl ?_
          refine xo_rd (rd_move rfl) rfl ?_
          refine xo_rd (rd_lss rfl rfl) rfl ?_
          refine xo_nil ?_
          refine xq_seq ?_
          refine xc_dec rfl (fun hz4 => ?_) (fun hz4 => ?_)
          refine xc_region ?_
          refine xo_rd (rd_assign rfl) rfl ?_
          refine xo_nil ?_
          refine xq_seq ?_
          refine xc_region ?_
          refine xo_rd (rd_move rfl) rfl ?_
          refine xo_rd (rd_assign rfl) rfl ?_
          refine xo_nil ?_
          refine xq_block ?_
          refine xq_seq ?_
          refine xc_region ?_
          refine xo_rd (rd_move rfl) rfl ?_
          refine xo_rd (rd_addn rfl rfl (by omega) (by omega)) rfl ?_
          refine xo_rd (rd_assign rfl) rfl ?_
          refine xo_nil ?_
          rotate_left
          refine xc_skip ?_
          refine xq_seq ?_
          refine xc_region ?_
          refine xo_rd (rd_move rfl) rfl ?_
          refine xo_rd (rd_assign rfl) rfl ?_
          refine xo_nil ?_
          refine xq_block ?_
          refine xq_seq ?_
          refine xc_region ?_
          refine xo_rd (rd_move rfl) rfl ?_
          refine xo_rd (rd_addn rfl rfl (by omega) (by omega)) rfl ?_
          refine xo_rd (rd_assign rfl) rfl ?_
          refine xo_nil ?_
          rotate_left
          refine xc_skip ?_
          refine xq_block ?_
          refine xq_seq ?_
          refine xc_region ?_
          refine xo_rd (rd_move rfl) rfl ?_
          refine xo_rd (rd_addn rfl rfl (by omega) (by omega)) rfl ?_
          refine xo_rd (rd_assign rfl) rfl ?_
          refine xo_nil ?_
          rotate_left
        all_goals unfold U at hUs hUi
        · have e1 : (18446744073709551615 : Int) = sumC (baseC ct cap) ((cm.zip on).take (i + 1)) := by
            rw [hsn, if_pos (by assumption)]
            simp only [wrap_u64] at hz4 ⊢
            unfold sat
            split <;> omega
          rw [e1]
          exact xq_roundI (i + 1) (by omega) (by omega) rfl (by repeat (first | exact keep_nil | refine keep_cons rfl ?_))
        · have e1 : IntKind.u64.wrap (sumC (baseC ct cap) ((cm.zip on).take i) + cm[i]) = sumC (baseC ct cap) ((cm.zip on).take (i + 1)) := by
            rw [hsn, if_pos (by assumption)]
            simp only [wrap_u64] at hz4 ⊢
            unfold sat
            split <;> omega
          rw [e1]
          exact xq_roundI (i + 1) (by omega) (by omega) rfl (by repeat (first | exact keep_nil | refine keep_cons rfl ?_))
        · have e1 : sumC (baseC ct cap) ((cm.zip on).take i) = sumC (baseC ct cap) ((cm.zip on).take (i + 1)) := by
            rw [hsn]; exact (if_neg (by simp [*])).symm
          rw [e1]
          exact xq_roundI (i + 1) (by omega) (by omega) rfl (by repeat (first | exact keep_nil | refine keep_cons rfl ?_))
      · have hall : (cm.zip on).take i = cm.zip on := List.take_of_length_le (by rw [List.length_zip]; omega)
        rw [hall]
        focus
          refine xc_seq ?_
          refine xc_seq ?_
          refine xc_region ?_
          refine xo_rd (rd_move rfl) rfl ?_
          refine xo_rd (rd_fieldAddr rfl) rfl ?_
          refine xo_rd (rd_load1 rfl (Cl.o1 rfl)) rfl ?_
          refine xo_rd (rd_len rfl) rfl ?_
          refine xo_rd (rd_lss rfl rfl) rfl ?_
          refine xo_rd (rd_move rfl) rfl ?_
          refine xo_dec 33 rfl (fun hz1 => ?_) (fun hz1 => (by exfalso; omega))
          refine xo_grd rfl rfl (rd_move rfl) rfl ?_
          refine xo_grd rfl rfl (rd_fieldAddr rfl) rfl ?_
          refine xo_grd rfl rfl (rd_load1 rfl (Cl.o0 rfl)) rfl ?_
          refine xo_grd rfl rfl (rd_len rfl) rfl ?_
          refine xo_grd rfl rfl (rd_lss rfl rfl) rfl ?_
          refine xo_rd (rd_pickt rfl rfl) rfl ?_
          refine xo_nil ?_
          refine xq_seq ?_
          refine xc_dec rfl (fun hz2 => (by exfalso; omega)) (fun hz2 => ?_)
          refine xc_exit ?_
          refine xq_then_exit ?_
          refine xq_then_exit ?_
          refine xq_block_hit ?_
          refine xq_seq ?_
          refine xc_seq ?_
          refine xc_region ?_
          refine xo_rd (rd_move rfl) rfl ?_
          refine xo_rd (rd_assign rfl) rfl ?_
          refine xo_nil ?_
          refine xq_seq ?_
          refine xc_ret ?_
        exact xq_sub (L' := L) ((List.sublist_cons_self _ _).trans (List.sublist_cons_self _ _)) (xq_ret1 (.inl rfl) Try.results18 rfl ⟨rfl, rfl⟩)
    · have hall : (cm.zip on).take i = cm.zip on := List.take_of_length_le (by rw [List.length_zip]; omega)
      rw [hall]
      focus
        refine xc_seq ?_
        refine xc_seq ?_
        refine xc_region ?_
        refine xo_rd (rd_move rfl) rfl ?_
        refine xo_rd (rd_fieldAddr rfl) rfl ?_
        refine xo_rd (rd_load1 rfl (Cl.o1 rfl)) rfl ?_
        refine xo_rd (rd_len rfl) rfl ?_
        refine xo_rd (rd_lss rfl rfl) rfl ?_
        refine xo_rd (rd_move rfl) rfl ?_
        refine xo_dec 33 rfl (fun hz1 => (by exfalso; omega)) (fun hz1 => ?_)
        refine xo_gskip rfl rfl rfl rfl ?_
        refine xo_gskip rfl rfl rfl rfl ?_
        refine xo_gskip rfl rfl rfl rfl ?_
        refine xo_gskip rfl rfl rfl rfl ?_
        refine xo_gskip rfl rfl rfl rfl ?_
        refine xo_rd (rd_pickf rfl rfl) rfl ?_
        refine xo_nil ?_
        refine xq_seq ?_
        refine xc_condf rfl ?_
        refine xc_exit ?_
        refine xq_then_exit ?_
        refine xq_then_exit ?_
        refine xq_block_hit ?_
        refine xq_seq ?_
        refine xc_seq ?_
        refine xc_region ?_
        refine xo_rd (rd_move rfl) rfl ?_
        refine xo_rd (rd_assign rfl) rfl ?_
        refine xo_nil ?_
        refine xq_seq ?_
        refine xc_ret ?_
      exact xq_sub (L' := L) ((List.sublist_cons_self _ _).trans (List.sublist_cons_self _ _)) (xq_ret1 (.inl rfl) Try.results18 rfl ⟨rfl, rfl⟩)
end Go.Proofs.Ytnghandgghfloaa.X
