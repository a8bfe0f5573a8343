/-
  Texts of my own, put together: walks and laws for this seat. No condition.
-/
import Derived.Test.YtmdeajdaeihniaaGreatN9
import Derived.Test.YtmdeajdaeihniaaGreatN7
/-
  RoomNone: a room that is not there answers so: walks of my own.
-/
namespace Go.Proofs.YtmdeajdaeihniaaGreat.X
open Go Go.RowKit
set_option linter.unusedVariables false
set_option linter.unusedSimpArgs false
/-- A call that comes. -/
structure Ac where
  d : Int
  m : Mb
  id : Int
  ot : Int
  fl : Bool
  cs : List Int
  p : Option Addr
  c : Nat
  by' : Int
def Ac.enc (a : Ac) : List Value := [.int .i64 a.d, .int .i64 a.m.id, .int .u32 a.m.content, .int .u32 a.m.camera, .bool a.m.mod, .int .i64 a.id, .int .i64 a.ot, .bool a.fl, .slice a.p a.cs.length a.c, .int .u8 a.by']
theorem Ac.len (a : Ac) : a.enc.length = 10 := rfl
set_option maxRecDepth 8000 in
theorem xf_few {W : World} {L : List Blk} (p : Option Addr) (n c : Nat) (xs : List Ac) (hx : xs.length = n) (hr : Rs W L p (xs.flatMap Ac.enc)) (most : Int) (hm : most ≤ 199) :
    XF Tryz.prog W 5 #[.slice p n c, .int .i64 most] L (fun v L' => ∃ b, v = .bool b ∧ (b = true → (n : Int) ≤ most ∧ ∀ x, x ∈ xs → x.cs.length ≤ 40) ∧ L' = L) := by
  refine xf_enter (args := [_, _]) Tryz.func5 rfl Tryz.ntmps5 rfl ?_
  focus
    refine xc_seq ?_
    refine xc_region ?_
    refine xo_rd (rd_assign rfl) rfl ?_
    refine xo_nil ?_
    refine xq_seq ?_
    refine xc_seq ?_
    refine xc_seq ?_
    refine xc_region ?_
    refine xo_rd (rd_assign rfl) rfl ?_
    refine xo_nil ?_
    refine xq_seq ?_
    refine xc_block ?_
  refine xc_loopK (ι := Nat) (fun i => i ≤ n ∧ i ≤ 200 ∧ ∀ x, x ∈ xs.take i → x.cs.length ≤ 40) (fun i => n - i) (fun i => [(0, .slice p n c), (1, .int .i64 most), (5, .int .i64 i)]) 0 ⟨Nat.zero_le _, by decide, by simp⟩ (by repeat (first | exact keep_nil | refine keep_cons rfl ?_)) ?_
  rintro i ⟨hi, hi2, hs⟩
  by_cases hin : i < n
  · by_cases hi6 : i < 200
    · obtain ⟨b, o, hp, hc⟩ := hr.rows Ac.len (by decide) (by omega)
      subst hp
      have hci := hc i (by omega)
      have e1 : xs[i]? = some xs[i] := List.getElem?_eq_getElem (by omega)
      generalize xs[i] = x at *
      have hc8 := hci 8 _ rfl
      focus
        refine xc_seq ?_
        refine xc_seq ?_
        refine xc_region ?_
        refine xo_rd (rd_move rfl) rfl ?_
        refine xo_rd (rd_move rfl) rfl ?_
        refine xo_rd (rd_len rfl) rfl ?_
        refine xo_rd (rd_lss rfl rfl) rfl ?_
        refine xo_rd (rd_move rfl) rfl ?_
        refine xo_dec 10 rfl (fun hz1 => ?_) (fun hz1 => (by exfalso; omega))
        refine xo_grd rfl rfl (rd_move rfl) rfl ?_
        refine xo_grd rfl rfl (rd_lss rfl rfl) rfl ?_
        refine xo_rd (rd_pickt rfl rfl) rfl ?_
        refine xo_nil ?_
        refine xq_seq ?_
        refine xc_dec rfl (fun hz2 => ?_) (fun hz2 => (by exfalso; omega))
        refine xc_skip ?_
        refine xq_seq ?_
        refine xc_seq ?_
        refine xc_block ?_
        refine xc_seq ?_
        refine xc_region ?_
        refine xo_rd (rd_move rfl) rfl ?_
        refine xo_rd (rd_move rfl) rfl ?_
        refine xo_rd (rd_indexAddr rfl rfl (by omega) (by omega)) rfl ?_
        refine xo_rd (rd_fieldAddr rfl) rfl ?_
        refine xo_rd (rd_load1 rfl hc8) rfl ?_
        refine xo_rd (rd_len rfl) rfl ?_
        refine xo_rd (rd_gtr rfl rfl) rfl ?_
        refine xo_nil ?_
        refine xq_seq ?_
        refine xc_dec rfl (fun hz3 => ?_) (fun hz3 => ?_)
        refine xc_seq ?_
        refine xc_region ?_
        refine xo_rd (rd_assign rfl) rfl ?_
        refine xo_nil ?_
        refine xq_seq ?_
        refine xc_ret ?_
        refine xq_block_ret ?_
        refine xq_then_ret ?_
        refine xq_then_ret ?_
        refine xq_block_ret ?_
        refine xq_then_ret ?_
        rotate_left
        refine xc_skip ?_
        refine xq_block ?_
        refine xq_seq ?_
        refine xc_region ?_
        refine xo_rd (rd_move rfl) rfl ?_
        refine xo_rd (rd_addn rfl rfl (by omega) (by omega)) rfl ?_
        refine xo_rd (rd_assign rfl) rfl ?_
        refine xo_nil ?_
        rotate_left
      · exact xq_ret1 (.inl rfl) Tryz.results5 rfl ⟨false, rfl, (fun h => by cases h), rfl⟩
      · refine xq_roundK rfl (i + 1) ⟨by omega, by omega, fun y hy => ?_⟩ (by omega) (List.Sublist.refl _) (by repeat (first | exact keep_nil | refine keep_cons rfl ?_))
        rw [List.take_add_one, e1] at hy
        rcases List.mem_append.1 hy with h | h
        · exact hs y h
        · rw [List.mem_singleton.1 h]; omega
    · skip
      focus
        refine xc_seq ?_
        refine xc_seq ?_
        refine xc_region ?_
        refine xo_rd (rd_move rfl) rfl ?_
        refine xo_rd (rd_move rfl) rfl ?_
        refine xo_rd (rd_len rfl) rfl ?_
        refine xo_rd (rd_lss rfl rfl) rfl ?_
        refine xo_rd (rd_move rfl) rfl ?_
        refine xo_dec 10 rfl (fun h1 => ?_) (fun h1 => (by exfalso; omega))
        refine xo_grd rfl rfl (rd_move rfl) rfl ?_
        refine xo_grd rfl rfl (rd_lss rfl rfl) rfl ?_
        refine xo_rd (rd_pickt rfl rfl) rfl ?_
        refine xo_nil ?_
        refine xq_seq ?_
        refine xc_dec rfl (fun h2 => (by exfalso; omega)) (fun h2 => ?_)
        refine xc_exit ?_
        refine xq_then_exit ?_
        refine xq_then_exit ?_
        refine xq_block_hit ?_
        refine xq_seq ?_
        refine xc_seq ?_
        refine xc_region ?_
        refine xo_rd (rd_move rfl) rfl ?_
        refine xo_rd (rd_len rfl) rfl ?_
        refine xo_rd (rd_move rfl) rfl ?_
        refine xo_rd (rd_leq rfl rfl) rfl ?_
        refine xo_rd (rd_assign rfl) rfl ?_
        refine xo_nil ?_
        refine xq_seq ?_
        refine xc_ret ?_
      refine xq_ret1 (.inl rfl) Tryz.results5 rfl ⟨false, ?_, (fun h => by cases h), rfl⟩
      rw [decide_eq_false (by omega)]
  · skip
    focus
      refine xc_seq ?_
      refine xc_seq ?_
      refine xc_region ?_
      refine xo_rd (rd_move rfl) rfl ?_
      refine xo_rd (rd_move rfl) rfl ?_
      refine xo_rd (rd_len rfl) rfl ?_
      refine xo_rd (rd_lss rfl rfl) rfl ?_
      refine xo_rd (rd_move rfl) rfl ?_
      refine xo_dec 10 rfl (fun h1 => (by exfalso; omega)) (fun h1 => ?_)
      refine xo_gskip rfl rfl rfl rfl ?_
      refine xo_gskip rfl rfl rfl rfl ?_
      refine xo_rd (rd_pickf rfl rfl) rfl ?_
      refine xo_nil ?_
      refine xq_seq ?_
      refine xc_condf rfl ?_
      refine xc_exit ?_
      refine xq_then_exit ?_
      refine xq_then_exit ?_
      refine xq_block_hit ?_
      refine xq_seq ?_
      refine xc_seq ?_
      refine xc_region ?_
      refine xo_rd (rd_move rfl) rfl ?_
      refine xo_rd (rd_len rfl) rfl ?_
      refine xo_rd (rd_move rfl) rfl ?_
      refine xo_rd (rd_leq rfl rfl) rfl ?_
      refine xo_rd (rd_assign rfl) rfl ?_
      refine xo_nil ?_
      refine xq_seq ?_
      refine xc_ret ?_
    refine xq_ret1 (.inl rfl) Tryz.results5 rfl ⟨_, rfl, fun h => ⟨by have := of_decide_eq_true h; omega, ?_⟩, rfl⟩
    rw [List.take_of_length_le (by omega)] at hs; exact hs
theorem xf_RJoinN {W : World} {L : List Blk} (m : Mb) : XF Tryz.prog W 38 #[.pointer none, .agg m.enc.toArray] L (fun v L' => v = .int .i64 1 ∧ L' = L) := by
  refine xf_enter (args := [_, _]) Tryz.func38 rfl Tryz.ntmps38 rfl ?_
  focus
    refine xc_seq ?_
    refine xc_region ?_
    refine xo_ef rfl (ef_box rfl fun r3 => ?_)
    refine xo_rd (rd_assign rfl) rfl ?_
    refine xo_nil ?_
    refine xq_seq ?_
    refine xc_seq ?_
    refine xc_block ?_
    refine xc_seq ?_
    refine xc_region ?_
    refine xo_rd (rd_move rfl) rfl ?_
    refine xo_rd (rd_eqnil rfl) rfl ?_
    refine xo_rd (rd_assign rfl) rfl ?_
    refine xo_nil ?_
    refine xq_seq ?_
    refine xc_condt rfl ?_
    refine xc_seq ?_
    refine xc_region ?_
    refine xo_rd (rd_assign rfl) rfl ?_
    refine xo_nil ?_
    refine xq_seq ?_
    refine xc_ret ?_
    refine xq_block_ret ?_
    refine xq_then_ret ?_
  exact xq_sub (List.sublist_cons_self _ _) (xq_ret1 (.inl rfl) Tryz.results38 rfl ⟨rfl, rfl⟩)
theorem xf_RLeaveN {W : World} {L : List Blk} (id now : Int) : XF Tryz.prog W 20 #[.pointer none, .int .i64 id, .int .u64 now] L (fun v L' => v = .int .i64 1 ∧ L' = L) := by
  refine xf_enter (args := [_, _, _]) Tryz.func20 rfl Tryz.ntmps20 rfl ?_
  focus
    refine xc_seq ?_
    refine xc_region ?_
    refine xo_ef rfl (ef_box rfl fun r4 => ?_)
    refine xo_rd (rd_assign rfl) rfl ?_
    refine xo_nil ?_
    refine xq_seq ?_
    refine xc_seq ?_
    refine xc_seq ?_
    refine xc_region ?_
    refine xo_rd (rd_move rfl) rfl ?_
    refine xo_rd (rd_eqnil rfl) rfl ?_
    refine xo_nil ?_
    refine xq_seq ?_
    refine xc_condt rfl ?_
    refine xc_seq ?_
    refine xc_region ?_
    refine xo_rd (rd_assign rfl) rfl ?_
    refine xo_nil ?_
    refine xq_seq ?_
    refine xc_ret ?_
    refine xq_then_ret ?_
  exact xq_sub (List.sublist_cons_self _ _) (xq_ret1 (.inl rfl) Tryz.results20 rfl ⟨rfl, rfl⟩)
theorem xf_RRequestN {W : World} {L : List Blk} (id now : Int) : XF Tryz.prog W 17 #[.pointer none, .int .i64 id, .int .u64 now] L (fun v L' => v = .int .i64 1 ∧ L' = L) := by
  refine xf_enter (args := [_, _, _]) Tryz.func17 rfl Tryz.ntmps17 rfl ?_
  focus
    refine xc_seq ?_
    refine xc_region ?_
    refine xo_rd (rd_assign rfl) rfl ?_
    refine xo_nil ?_
    refine xq_seq ?_
    refine xc_seq ?_
    refine xc_seq ?_
    refine xc_region ?_
    refine xo_rd (rd_move rfl) rfl ?_
    refine xo_rd (rd_move rfl) rfl ?_
    refine xo_ef rfl (ef_buildL (T := 50) (len := 1) (s := 1) (cells := (ints .i64 [id]).toArray) rfl (by decide) (by decide) (by kernel_rfl) fun r10 => ?_)
    refine xo_ef rfl (ef_call rfl (XF.mono (xf_mayN _ _ _) ?_))
    rintro v L' ⟨rfl, rfl⟩
    refine xo_rd (rd_assign rfl) rfl ?_
    refine xo_nil ?_
    refine xq_seq ?_
    refine xc_seq ?_
    refine xc_region ?_
    refine xo_rd (rd_move rfl) rfl ?_
    refine xo_rd (rd_neq rfl rfl) rfl ?_
    refine xo_nil ?_
    refine xq_seq ?_
    refine xc_condt rfl ?_
    refine xc_seq ?_
    refine xc_region ?_
    refine xo_rd (rd_move rfl) rfl ?_
    refine xo_rd (rd_assign rfl) rfl ?_
    refine xo_nil ?_
    refine xq_seq ?_
    refine xc_ret ?_
    refine xq_then_ret ?_
  exact xq_sub (List.sublist_cons_self _ _) (xq_ret1 (.inl rfl) Tryz.results17 rfl ⟨rfl, rfl⟩)
theorem xf_RReleaseN {W : World} {L : List Blk} (id now : Int) : XF Tryz.prog W 39 #[.pointer none, .int .i64 id, .int .u64 now] L (fun v L' => v = .int .i64 1 ∧ L' = L) := by
  refine xf_enter (args := [_, _, _]) Tryz.func39 rfl Tryz.ntmps39 rfl ?_
  focus
    refine xc_seq ?_
    refine xc_region ?_
    refine xo_rd (rd_assign rfl) rfl ?_
    refine xo_nil ?_
    refine xq_seq ?_
    refine xc_seq ?_
    refine xc_seq ?_
    refine xc_region ?_
    refine xo_rd (rd_move rfl) rfl ?_
    refine xo_rd (rd_move rfl) rfl ?_
    refine xo_ef rfl (ef_buildL (T := 50) (len := 1) (s := 1) (cells := (ints .i64 [id]).toArray) rfl (by decide) (by decide) (by kernel_rfl) fun r10 => ?_)
    refine xo_ef rfl (ef_call rfl (XF.mono (xf_mayN _ _ _) ?_))
    rintro v L' ⟨rfl, rfl⟩
    refine xo_rd (rd_assign rfl) rfl ?_
    refine xo_nil ?_
    refine xq_seq ?_
    refine xc_seq ?_
    refine xc_region ?_
    refine xo_rd (rd_move rfl) rfl ?_
    refine xo_rd (rd_neq rfl rfl) rfl ?_
    refine xo_nil ?_
    refine xq_seq ?_
    refine xc_condt rfl ?_
    refine xc_seq ?_
    refine xc_region ?_
    refine xo_rd (rd_move rfl) rfl ?_
    refine xo_rd (rd_assign rfl) rfl ?_
    refine xo_nil ?_
    refine xq_seq ?_
    refine xc_ret ?_
    refine xq_then_ret ?_
  exact xq_sub (List.sublist_cons_self _ _) (xq_ret1 (.inl rfl) Tryz.results39 rfl ⟨rfl, rfl⟩)
theorem xf_RRevokeN {W : World} {L : List Blk} (b id now : Int) : XF Tryz.prog W 40 #[.pointer none, .int .i64 b, .int .i64 id, .int .u64 now] L (fun v L' => v = .int .i64 1 ∧ L' = L) := by
  refine xf_enter (args := [_, _, _, _]) Tryz.func40 rfl Tryz.ntmps40 rfl ?_
  focus
    refine xc_seq ?_
    refine xc_region ?_
    refine xo_rd (rd_assign rfl) rfl ?_
    refine xo_nil ?_
    refine xq_seq ?_
    refine xc_seq ?_
    refine xc_seq ?_
    refine xc_region ?_
    refine xo_rd (rd_move rfl) rfl ?_
    refine xo_rd (rd_move rfl) rfl ?_
    refine xo_rd (rd_move rfl) rfl ?_
    refine xo_ef rfl (ef_buildL (T := 50) (len := 2) (s := 1) (cells := (ints .i64 [b, id]).toArray) rfl (by decide) (by decide) (by kernel_rfl) fun r10 => ?_)
    refine xo_ef rfl (ef_call rfl (XF.mono (xf_mayN _ _ _) ?_))
    rintro v L' ⟨rfl, rfl⟩
    refine xo_rd (rd_assign rfl) rfl ?_
    refine xo_nil ?_
    refine xq_seq ?_
    refine xc_seq ?_
    refine xc_region ?_
    refine xo_rd (rd_move rfl) rfl ?_
    refine xo_rd (rd_neq rfl rfl) rfl ?_
    refine xo_nil ?_
    refine xq_seq ?_
    refine xc_condt rfl ?_
    refine xc_seq ?_
    refine xc_region ?_
    refine xo_rd (rd_move rfl) rfl ?_
    refine xo_rd (rd_assign rfl) rfl ?_
    refine xo_nil ?_
    refine xq_seq ?_
    refine xc_ret ?_
    refine xq_then_ret ?_
  exact xq_sub (List.sublist_cons_self _ _) (xq_ret1 (.inl rfl) Tryz.results40 rfl ⟨rfl, rfl⟩)
theorem xf_RHeardN {W : World} {L : List Blk} (id now : Int) (k : Bool) : XF Tryz.prog W 41 #[.pointer none, .int .i64 id, .int .u64 now, .bool k] L (fun v L' => v = .bool false ∧ L' = L) := by
  refine xf_enter (args := [_, _, _, _]) Tryz.func41 rfl Tryz.ntmps41 rfl ?_
  focus
    refine xc_seq ?_
    refine xc_region ?_
    refine xo_rd (rd_assign rfl) rfl ?_
    refine xo_nil ?_
    refine xq_seq ?_
    refine xc_seq ?_
    refine xc_region ?_
    refine xo_rd (rd_move rfl) rfl ?_
    refine xo_rd (rd_move rfl) rfl ?_
    refine xo_ef rfl (ef_buildL (T := 50) (len := 1) (s := 1) (cells := (ints .i64 [id]).toArray) rfl (by decide) (by decide) (by kernel_rfl) fun r10 => ?_)
    refine xo_ef rfl (ef_call rfl (XF.mono (xf_mayN _ _ _) ?_))
    rintro v L' ⟨rfl, rfl⟩
    refine xo_rd (rd_eql rfl rfl) rfl ?_
    refine xo_rd (rd_move rfl) rfl ?_
    refine xo_gskip rfl rfl rfl rfl ?_
    refine xo_gskip rfl rfl rfl rfl ?_
    refine xo_gskip rfl rfl rfl rfl ?_
    refine xo_gskip rfl rfl rfl rfl ?_
    refine xo_gskip rfl rfl rfl rfl ?_
    refine xo_gskip rfl rfl rfl rfl ?_
    refine xo_gskip rfl rfl rfl rfl ?_
    refine xo_gskip rfl rfl rfl rfl ?_
    refine xo_gskip rfl rfl rfl rfl ?_
    refine xo_rd (rd_pickf rfl rfl) rfl ?_
    refine xo_rd (rd_assign rfl) rfl ?_
    refine xo_nil ?_
    refine xq_seq ?_
    refine xc_ret ?_
  exact xq_sub (List.sublist_cons_self _ _) (xq_ret1 (.inl rfl) Tryz.results41 rfl ⟨rfl, rfl⟩)
theorem xf_RTickN {W : World} {L : List Blk} (now : Int) : XF Tryz.prog W 42 #[.pointer none, .int .u64 now] L (fun v L' => v = .bool false ∧ L' = L) := by
  refine xf_enter (args := [_, _]) Tryz.func42 rfl Tryz.ntmps42 rfl ?_
  focus
    refine xc_seq ?_
    refine xc_region ?_
    refine xo_rd (rd_assign rfl) rfl ?_
    refine xo_nil ?_
    refine xq_seq ?_
    refine xc_seq ?_
    refine xc_region ?_
    refine xo_rd (rd_move rfl) rfl ?_
    refine xo_rd (rd_nenil rfl) rfl ?_
    refine xo_rd (rd_move rfl) rfl ?_
    refine xo_gskip rfl rfl rfl rfl ?_
    refine xo_gskip rfl rfl rfl rfl ?_
    refine xo_gskip rfl rfl rfl rfl ?_
    refine xo_gskip rfl rfl rfl rfl ?_
    refine xo_gskip rfl rfl rfl rfl ?_
    refine xo_gskip rfl rfl rfl rfl ?_
    refine xo_rd (rd_pickf rfl rfl) rfl ?_
    refine xo_rd (rd_assign rfl) rfl ?_
    refine xo_nil ?_
    refine xq_seq ?_
    refine xc_ret ?_
  exact xq_ret1 (.inl rfl) Tryz.results42 rfl ⟨rfl, rfl⟩
theorem xf_RSubscribeN {W : World} {L : List Blk} (id : Int) (ct : Bool) (p : Option Addr) (n c : Nat) : XF Tryz.prog W 16 #[.pointer none, .int .i64 id, .agg (wEnc ct p n c).toArray] L (fun v L' => v = .int .i64 1 ∧ L' = L) := by
  refine xf_enter (args := [_, _, _]) Tryz.func16 rfl Tryz.ntmps16 rfl ?_
  focus
    refine xc_seq ?_
    refine xc_region ?_
    refine xo_ef rfl (ef_box rfl fun r5 => ?_)
    refine xo_rd (rd_assign rfl) rfl ?_
    refine xo_nil ?_
    refine xq_seq ?_
    refine xc_seq ?_
    refine xc_seq ?_
    refine xc_region ?_
    refine xo_rd (rd_move rfl) rfl ?_
    refine xo_rd (rd_eqnil rfl) rfl ?_
    refine xo_nil ?_
    refine xq_seq ?_
    refine xc_condt rfl ?_
    refine xc_seq ?_
    refine xc_region ?_
    refine xo_rd (rd_assign rfl) rfl ?_
    refine xo_nil ?_
    refine xq_seq ?_
    refine xc_ret ?_
    refine xq_then_ret ?_
  exact xq_sub (List.sublist_cons_self _ _) (xq_ret1 (.inl rfl) Tryz.results16 rfl ⟨rfl, rfl⟩)
theorem pick_small (k : Int) (h0 : 0 ≤ k) (h1 : k < 9) : (k.tmod 9 + 9) % 9 = k := by
  rw [Int.tmod_eq_emod_of_nonneg h0]; omega
/-- Where a row is written over. -/
structure SpS where
  i : Nat
  xs : List Int
  l : List Blk
set_option maxHeartbeats 1600000 in
theorem xf_doesN {W : World} {L : List Blk} (a : Ac) (now : Int) (h0 : 0 ≤ a.d) (h1 : a.d < 6) (hr : Rs W L a.p (ints .i64 a.cs)) (hl : a.cs.length ≤ 1000000) : XF Tryz.prog W 10 #[.pointer none, .agg a.enc.toArray, .int .u64 now] L (fun v L' => v = .int .i64 1 ∧ L' = L) := by
  have hpk := fun L' => xf_pickI (W := W) (L := L') a.d 9 (by decide) (by decide)
  rw [pick_small a.d h0 (by omega)] at hpk
  refine xf_enter (args := [_, _, _]) Tryz.func10 rfl Tryz.ntmps10 rfl ?_
  focus
    refine xc_seq ?_
    refine xc_region ?_
    refine xo_ef rfl (ef_box rfl fun r4 => ?_)
    refine xo_rd (rd_assign rfl) rfl ?_
    refine xo_nil ?_
    refine xq_seq ?_
    refine xc_seq ?_
    refine xc_seq ?_
    refine xc_region ?_
    refine xo_rd (rd_fieldAddr rfl) rfl ?_
    refine xo_rd (rd_load1 rfl (Cl.o0 rfl)) rfl ?_
    refine xo_ef rfl (ef_call rfl (XF.mono (hpk _) ?_))
    rintro v L' ⟨rfl, rfl⟩
    refine xo_nil ?_
    refine xq_seq ?_
    refine xc_block ?_
    refine xc_seq ?_
    refine xc_region ?_
    refine xo_rd (rd_eql rfl rfl) rfl ?_
    refine xo_rd (rd_assign rfl) rfl ?_
    refine xo_nil ?_
    refine xq_seq ?_
    refine xc_dec rfl (fun h1 => ?_) (fun h1 => ?_)
    refine xc_seq ?_
    refine xc_region ?_
    refine xo_rd (rd_move rfl) rfl ?_
    refine xo_rd (rd_fieldAddr rfl) rfl ?_
    refine xo_rd (rd_loadA (vs := a.m.enc) rfl rfl (cl_sub (b := r4) (vs := a.enc) (T := 52) (fr := (0, 0)) 1 (List.Mem.head _) rfl)) rfl ?_
    refine xo_ef rfl (ef_call rfl (XF.mono (xf_RJoinN a.m) ?_))
    rintro v L' ⟨rfl, rfl⟩
    refine xo_rd (rd_assign rfl) rfl ?_
    refine xo_nil ?_
    refine xq_seq ?_
    refine xc_ret ?_
    refine xq_block_ret ?_
    refine xq_then_ret ?_
    rotate_left
    refine xc_seq ?_
    refine xc_region ?_
    refine xo_rd (rd_eql rfl rfl) rfl ?_
    refine xo_rd (rd_assign rfl) rfl ?_
    refine xo_nil ?_
    refine xq_seq ?_
    refine xc_dec rfl (fun h2 => ?_) (fun h2 => ?_)
    refine xc_seq ?_
    refine xc_region ?_
    refine xo_rd (rd_move rfl) rfl ?_
    refine xo_rd (rd_fieldAddr rfl) rfl ?_
    refine xo_rd (rd_load1 rfl (Cl.o0 rfl)) rfl ?_
    refine xo_rd (rd_move rfl) rfl ?_
    refine xo_ef rfl (ef_call rfl (XF.mono (xf_RLeaveN a.id now) ?_))
    rintro v L' ⟨rfl, rfl⟩
    refine xo_rd (rd_assign rfl) rfl ?_
    refine xo_nil ?_
    refine xq_seq ?_
    refine xc_ret ?_
    refine xq_block_ret ?_
    refine xq_then_ret ?_
    rotate_left
    refine xc_seq ?_
    refine xc_region ?_
    refine xo_rd (rd_eql rfl rfl) rfl ?_
    refine xo_rd (rd_assign rfl) rfl ?_
    refine xo_nil ?_
    refine xq_seq ?_
    refine xc_dec rfl (fun h3 => ?_) (fun h3 => ?_)
    refine xc_seq ?_
    refine xc_region ?_
    refine xo_rd (rd_move rfl) rfl ?_
    refine xo_rd (rd_fieldAddr rfl) rfl ?_
    refine xo_rd (rd_load1 rfl (Cl.o0 rfl)) rfl ?_
    refine xo_rd (rd_move rfl) rfl ?_
    refine xo_ef rfl (ef_call rfl (XF.mono (xf_RRequestN a.id now) ?_))
    rintro v L' ⟨rfl, rfl⟩
    refine xo_rd (rd_assign rfl) rfl ?_
    refine xo_nil ?_
    refine xq_seq ?_
    refine xc_ret ?_
    refine xq_block_ret ?_
    refine xq_then_ret ?_
    rotate_left
    refine xc_seq ?_
    refine xc_region ?_
    refine xo_rd (rd_eql rfl rfl) rfl ?_
    refine xo_rd (rd_assign rfl) rfl ?_
    refine xo_nil ?_
    refine xq_seq ?_
    refine xc_dec rfl (fun h4 => ?_) (fun h4 => ?_)
    refine xc_seq ?_
    refine xc_region ?_
    refine xo_rd (rd_move rfl) rfl ?_
    refine xo_rd (rd_fieldAddr rfl) rfl ?_
    refine xo_rd (rd_load1 rfl (Cl.o0 rfl)) rfl ?_
    refine xo_rd (rd_move rfl) rfl ?_
    refine xo_ef rfl (ef_call rfl (XF.mono (xf_RReleaseN a.id now) ?_))
    rintro v L' ⟨rfl, rfl⟩
    refine xo_rd (rd_assign rfl) rfl ?_
    refine xo_nil ?_
    refine xq_seq ?_
    refine xc_ret ?_
    refine xq_block_ret ?_
    refine xq_then_ret ?_
    rotate_left
    refine xc_seq ?_
    refine xc_region ?_
    refine xo_rd (rd_eql rfl rfl) rfl ?_
    refine xo_rd (rd_assign rfl) rfl ?_
    refine xo_nil ?_
    refine xq_seq ?_
    refine xc_dec rfl (fun h5 => ?_) (fun h5 => ?_)
    refine xc_seq ?_
    refine xc_region ?_
    refine xo_rd (rd_move rfl) rfl ?_
    refine xo_rd (rd_fieldAddr rfl) rfl ?_
    refine xo_rd (rd_load1 rfl (Cl.o0 rfl)) rfl ?_
    refine xo_rd (rd_fieldAddr rfl) rfl ?_
    refine xo_rd (rd_load1 rfl (Cl.o0 rfl)) rfl ?_
    refine xo_rd (rd_move rfl) rfl ?_
    refine xo_ef rfl (ef_call rfl (XF.mono (xf_RRevokeN a.id a.ot now) ?_))
    rintro v L' ⟨rfl, rfl⟩
    refine xo_rd (rd_assign rfl) rfl ?_
    refine xo_nil ?_
    refine xq_seq ?_
    refine xc_ret ?_
    refine xq_block_ret ?_
    refine xq_then_ret ?_
    rotate_left
    refine xc_seq ?_
    refine xc_seq ?_
    refine xc_region ?_
    refine xo_rd (rd_eql rfl rfl) rfl ?_
    refine xo_rd (rd_assign rfl) rfl ?_
    refine xo_nil ?_
    refine xq_seq ?_
    refine xc_dec rfl (fun h6 => ?_) (fun h6 => (by exfalso; omega))
    refine xc_skip ?_
    refine xq_seq ?_
    refine xc_dec rfl (fun h7 => ?_) (fun h7 => (by exfalso; omega))
    refine xc_seq ?_
    refine xc_region ?_
    refine xo_rd (rd_assign rfl) rfl ?_
    refine xo_nil ?_
    refine xq_seq ?_
    rotate_left
  all_goals first
    | exact xq_sub (List.sublist_cons_self _ _) (xq_ret1 (.inl rfl) Tryz.results10 rfl ⟨rfl, rfl⟩)
    | skip
  focus
    refine xc_seq ?_
    refine xc_region ?_
    refine xo_rd (rd_move rfl) rfl ?_
    refine xo_rd (rd_fieldAddr rfl) rfl ?_
    refine xo_rd (rd_load1 rfl (Cl.o0 rfl)) rfl ?_
    refine xo_ef rfl (ef_appendQS [] _ [] (news := ints .i64 a.cs) rfl rfl SlQ.nil rfl (hr.mono (by intro z hz; simp [hz])) (by simp [ints]) (ints_one _ _) (by decide) (by omega) (by omega) fun p2 c2 l2 hO2 hk2 => ?_)
    refine xo_rd (rd_assign rfl) rfl ?_
    refine xo_nil ?_
    refine xq_seq ?_
  rw [Nat.zero_add, List.nil_append] at hO2
  refine xc_perm (L' := (r4, Obj.cells a.enc.toArray 52 (0, 0)) :: (l2 ++ L)) List.perm_middle ?_
  focus
    refine xc_seq ?_
    refine xc_region ?_
    refine xo_rd (rd_move rfl) rfl ?_
    refine xo_rd (rd_fieldAddr rfl) rfl ?_
    refine xo_rd (rd_load1 rfl (Cl.o0 rfl)) rfl ?_
    refine xo_rd (rd_fieldAddr rfl) rfl ?_
    refine xo_rd (rd_load1 rfl (Cl.o0 rfl)) rfl ?_
    refine xo_rd (rd_move rfl) rfl ?_
    refine xo_rd (rd_cast (v' := .agg (wEnc a.fl p2 (0 + a.cs.length) c2).toArray) (rd_build (T := 64) rfl rfl rfl) (by kernel_rfl)) rfl ?_
    refine xo_ef rfl (ef_call rfl (XF.mono (xf_RSubscribeN a.id a.fl p2 (0 + a.cs.length) c2) ?_))
    rintro v L' ⟨rfl, rfl⟩
    refine xo_rd (rd_assign rfl) rfl ?_
    refine xo_nil ?_
    refine xq_seq ?_
    refine xc_seq ?_
    refine xc_seq ?_
    refine xc_region ?_
    refine xo_rd (rd_assign rfl) rfl ?_
    refine xo_nil ?_
    refine xq_seq ?_
    refine xc_block ?_
  refine xc_loopI (ι := SpS) (fun s => s.i ≤ a.cs.length ∧ s.xs.length = a.cs.length ∧ SlQ 1 3 (.slice p2 a.cs.length c2) a.cs.length (ints .i64 s.xs) s.l) (fun s => a.cs.length - s.i) (fun s => (r4, Obj.cells a.enc.toArray 52 (0, 0)) :: (s.l ++ L)) (fun s => [(7, .slice p2 (0 + a.cs.length) c2), (8, .int .i64 1), (9, .int .i64 s.i)]) ⟨0, a.cs, l2⟩ ⟨Nat.zero_le _, rfl, hO2⟩ rfl (by repeat (first | exact keep_nil | refine keep_cons rfl ?_)) ?_
  rintro ⟨i, xs, l3⟩ ⟨hi, hxl, hO3⟩
  dsimp only at hi hxl hO3 ⊢
  by_cases hin : i < a.cs.length
  · obtain ⟨b, o, hpb, hc⟩ := (hO3.rsl (W := W) (R := L)).int (i := i) (by omega)
    subst hpb
    focus
      refine xc_seq ?_
      refine xc_seq ?_
      refine xc_region ?_
      refine xo_rd (rd_move rfl) rfl ?_
      refine xo_rd (rd_move rfl) rfl ?_
      refine xo_rd (rd_len rfl) rfl ?_
      refine xo_rd (rd_lss rfl rfl) rfl ?_
      refine xo_nil ?_
      refine xq_seq ?_
      refine xc_dec rfl (fun hz1 => ?_) (fun hz1 => (by exfalso; omega))
      refine xc_skip ?_
      refine xq_seq ?_
      refine xc_seq ?_
      refine xc_block ?_
      refine xc_region ?_
      refine xo_rd (rd_move rfl) rfl ?_
      refine xo_rd (rd_move rfl) rfl ?_
      refine xo_rd (rd_indexAddr rfl rfl (by omega) (by omega)) rfl ?_
      refine xo_ef rfl (ef_storeQ1 [_] L i (v := .int .i64 99) hO3 rfl (by omega) rfl rfl rfl (by omega) rfl fun l4 hO4 => ?_)
      refine xo_nil ?_
      refine xq_block ?_
      refine xq_seq ?_
      refine xc_region ?_
      refine xo_rd (rd_move rfl) rfl ?_
      refine xo_rd (rd_addn rfl rfl (by omega) (by omega)) rfl ?_
      refine xo_rd (rd_assign rfl) rfl ?_
      refine xo_nil ?_
    exact xq_roundI (⟨i + 1, xs.set i 99, l4⟩ : SpS) ⟨by dsimp only; omega, by dsimp only; rw [List.length_set]; exact hxl, by dsimp only; rw [ints_set]; exact hO4⟩ (by dsimp only; omega) rfl (by repeat (first | exact keep_nil | refine keep_cons rfl ?_))
  · skip
    focus
      refine xc_seq ?_
      refine xc_seq ?_
      refine xc_region ?_
      refine xo_rd (rd_move rfl) rfl ?_
      refine xo_rd (rd_move rfl) rfl ?_
      refine xo_rd (rd_len rfl) rfl ?_
      refine xo_rd (rd_lss rfl rfl) rfl ?_
      refine xo_nil ?_
      refine xq_seq ?_
      refine xc_dec rfl (fun hz1 => (by exfalso; omega)) (fun hz1 => ?_)
      refine xc_exit ?_
      refine xq_then_exit ?_
      refine xq_then_exit ?_
      refine xq_block_hit ?_
      refine xq_seq ?_
      refine xc_seq ?_
      refine xc_region ?_
      refine xo_rd (rd_move rfl) rfl ?_
      refine xo_rd (rd_assign rfl) rfl ?_
      refine xo_nil ?_
      refine xq_seq ?_
      refine xc_ret ?_
      refine xq_block_ret ?_
      refine xq_then_ret ?_
    exact xq_sub ((List.sublist_append_right l3 _).trans (List.sublist_cons_self _ _)) (xq_ret1 (.inl rfl) Tryz.results10 rfl ⟨rfl, rfl⟩)
def Ac.at (a : Ac) (k : Int) : Ac := ⟨k, a.m, a.id, a.ot, a.fl, a.cs, a.p, a.c, a.by'⟩
set_option maxHeartbeats 1600000 in
theorem xf_RoomNone {W : World} (a : Ac) (hr : Rs W [] a.p (ints .i64 a.cs)) : XF Tryz.prog W 14 #[.agg a.enc.toArray] [] (fun v L' => v = .bool true) := by
  refine xf_enter (args := [_]) Tryz.func14 rfl Tryz.ntmps14 rfl ?_
  focus
    refine xc_seq ?_
    refine xc_region ?_
    refine xo_ef rfl (ef_box rfl fun r1 => ?_)
    refine xo_rd (rd_assign rfl) rfl ?_
    refine xo_nil ?_
    refine xq_seq ?_
    refine xc_seq ?_
    refine xc_seq ?_
    refine xc_region ?_
    refine xo_rd (rd_loadB rfl Kn.o0 (by rfl)) rfl ?_
    refine xo_ef rfl (ef_sliceA (vs := a.enc) rfl rfl (by rw [Ac.len]; decide) (by rw [Ac.len]; decide) fun r15 => ?_)
    refine xo_ef rfl (ef_call rfl (XF.mono (xf_few _ 1 1 [a] rfl (by rw [List.flatMap_singleton]; exact Rs.fresh List.mem_cons_self) 1 (by decide)) ?_))
    rintro v L' ⟨b, rfl, hb, rfl⟩
    refine xo_rd (rd_not rfl) rfl ?_
    refine xo_nil ?_
    refine xq_seq ?_
    refine xc_cond rfl (fun hz1 => ?_) (fun hz1 => ?_)
    refine xc_seq ?_
    refine xc_region ?_
    refine xo_ef rfl (ef_call rfl (XF.mono (xf_works) ?_))
    rintro v L' ⟨rfl, rfl⟩
    refine xo_rd (rd_assign rfl) rfl ?_
    refine xo_nil ?_
    refine xq_seq ?_
    refine xc_ret ?_
    refine xq_then_ret ?_
    rotate_left
    refine xc_skip ?_
    refine xq_seq ?_
    rotate_left
  · exact xq_ret1 (.inl rfl) Tryz.results14 rfl rfl
  refine xc_sub (L' := [(r1, Obj.cells a.enc.toArray 52 (0, 0))]) (List.sublist_cons_self _ _) ?_
  have hcs : a.cs.length ≤ 40 := (hb (by simpa using hz1)).2 a (List.mem_singleton.2 rfl)
  clear hb
  focus
    refine xc_seq ?_
    refine xc_region ?_
    refine xo_rd (rd_assign rfl) rfl ?_
    refine xo_nil ?_
    refine xq_seq ?_
    refine xc_seq ?_
    refine xc_seq ?_
    refine xc_region ?_
    refine xo_rd (rd_assign rfl) rfl ?_
    refine xo_nil ?_
    refine xq_seq ?_
    refine xc_block ?_
  refine xc_loopI (ι := Int × Nat) (fun s => s.2 ≤ 6) (fun s => 6 - s.2) (fun s => [(r1, .cells (a.at s.1).enc.toArray 52 (0, 0))]) (fun s => [(1, .pointer (some ⟨r1, 0, none⟩)), (3, .pointer none), (4, .int .i64 s.2)]) (a.d, 0) (Nat.zero_le _) rfl (by repeat (first | exact keep_nil | refine keep_cons rfl ?_)) ?_
  rintro ⟨d, k⟩ hk
  dsimp only at hk ⊢
  by_cases hk6 : k < 6
  · skip
    focus
      refine xc_seq ?_
      refine xc_seq ?_
      refine xc_region ?_
      refine xo_rd (rd_move rfl) rfl ?_
      refine xo_rd (rd_lss rfl rfl) rfl ?_
      refine xo_nil ?_
      refine xq_seq ?_
      refine xc_dec rfl (fun h1 => ?_) (fun h1 => (by exfalso; omega))
      refine xc_skip ?_
      refine xq_seq ?_
      refine xc_seq ?_
      refine xc_block ?_
      refine xc_seq ?_
      refine xc_region ?_
      refine xo_rd (rd_move rfl) rfl ?_
      refine xo_rd (rd_fieldAddr rfl) rfl ?_
      refine xo_ef rfl (ef_store1 [] _ rfl rfl (by first | rfl | assumption) rfl rfl rfl ?_)
      refine xo_nil ?_
      refine xq_seq ?_
      refine xc_seq ?_
      refine xc_region ?_
      refine xo_rd (rd_move rfl) rfl ?_
      refine xo_rd (rd_loadB rfl Kn.o0 (by rfl)) rfl ?_
      refine xo_ef rfl (ef_call rfl (XF.mono (xf_doesN (a.at (k : Int)) 3 (by show (0 : Int) ≤ k; omega) (by show (k : Int) < 6; omega) (hr.mono fun z hz => by cases hz) (by show a.cs.length ≤ _; omega)) ?_))
      rintro v L' ⟨rfl, rfl⟩
      refine xo_rd (rd_neq rfl rfl) rfl ?_
      refine xo_nil ?_
      refine xq_seq ?_
      refine xc_condf rfl ?_
      refine xc_skip ?_
      refine xq_block ?_
      refine xq_seq ?_
      refine xc_region ?_
      refine xo_rd (rd_move rfl) rfl ?_
      refine xo_rd (rd_addn rfl rfl (by omega) (by omega)) rfl ?_
      refine xo_rd (rd_assign rfl) rfl ?_
      refine xo_nil ?_
    exact xq_roundI ((k : Int), k + 1) (by dsimp only; omega) (by dsimp only; omega) rfl (by repeat (first | exact keep_nil | refine keep_cons rfl ?_))
  · skip
    focus
      refine xc_seq ?_
      refine xc_seq ?_
      refine xc_region ?_
      refine xo_rd (rd_move rfl) rfl ?_
      refine xo_rd (rd_lss rfl rfl) rfl ?_
      refine xo_nil ?_
      refine xq_seq ?_
      refine xc_dec rfl (fun h1 => (by exfalso; omega)) (fun h1 => ?_)
      refine xc_exit ?_
      refine xq_then_exit ?_
      refine xq_then_exit ?_
      refine xq_block_hit ?_
      refine xq_seq ?_
      refine xc_seq ?_
      refine xc_region ?_
      refine xo_rd (rd_move rfl) rfl ?_
      refine xo_ef rfl (ef_call rfl (XF.mono (xf_RHolderN) ?_))
      rintro v L' ⟨rfl, rfl⟩
      refine xo_rd (rd_move rfl) rfl ?_
      refine xo_rd (rd_extract rfl rfl) rfl ?_
      refine xo_rd (rd_extract rfl rfl) rfl ?_
      refine xo_ef rfl (ef_alloc fun r5 => ?_)
      refine xo_ef rfl (ef_storeB [] _ rfl rfl (by first | rfl | assumption) rfl rfl rfl ?_)
      refine xo_rd (rd_assign rfl) rfl ?_
      refine xo_nil ?_
      refine xq_seq ?_
      refine xc_seq ?_
      refine xc_region ?_
      refine xo_rd (rd_move rfl) rfl ?_
      refine xo_rd (rd_fieldAddr rfl) rfl ?_
      refine xo_rd (rd_load1 rfl (Cl.o1 rfl)) rfl ?_
      refine xo_ef rfl (ef_call rfl (XF.mono (xf_RWatchN a.id) ?_))
      rintro v L' ⟨rfl, rfl⟩
      refine xo_rd (rd_move rfl) rfl ?_
      refine xo_rd (rd_extract rfl rfl) rfl ?_
      refine xo_rd (rd_extract rfl rfl) rfl ?_
      refine xo_ef rfl (ef_alloc fun r7 => ?_)
      refine xo_ef rfl (ef_storeB [] _ rfl rfl (by first | rfl | assumption) rfl rfl rfl ?_)
      refine xo_rd (rd_assign rfl) rfl ?_
      refine xo_nil ?_
      refine xq_seq ?_
      refine xc_seq ?_
      refine xc_region ?_
      refine xo_rd (rd_move rfl) rfl ?_
      refine xo_ef rfl (ef_call rfl (XF.mono (xf_RSourceN 3) ?_))
      rintro v L' ⟨rfl, rfl⟩
      refine xo_rd (rd_move rfl) rfl ?_
      refine xo_rd (rd_extract rfl rfl) rfl ?_
      refine xo_rd (rd_extract rfl rfl) rfl ?_
      refine xo_rd (rd_extract rfl rfl) rfl ?_
      refine xo_ef rfl (ef_alloc fun r9 => ?_)
      refine xo_ef rfl (ef_storeB [] _ rfl rfl (by first | rfl | assumption) rfl rfl rfl ?_)
      refine xo_rd (rd_assign rfl) rfl ?_
      refine xo_rd (rd_assign rfl) rfl ?_
      refine xo_nil ?_
      refine xq_seq ?_
      refine xc_seq ?_
      refine xc_region ?_
      refine xo_rd (rd_move rfl) rfl ?_
      refine xo_rd (rd_fieldAddr rfl) rfl ?_
      refine xo_rd (rd_load1 rfl (Cl.o3 rfl)) rfl ?_
      refine xo_ef rfl (ef_call rfl (XF.mono (xf_RMemberN a.id) ?_))
      rintro v L' ⟨rfl, rfl⟩
      refine xo_rd (rd_move rfl) rfl ?_
      refine xo_rd (rd_extract rfl rfl) rfl ?_
      refine xo_rd (rd_extract rfl rfl) rfl ?_
      refine xo_ef rfl (ef_alloc fun r12 => ?_)
      refine xo_ef rfl (ef_storeB [] _ rfl rfl (by first | rfl | assumption) rfl rfl rfl ?_)
      refine xo_rd (rd_assign rfl) rfl ?_
      refine xo_nil ?_
      refine xq_seq ?_
    focus
      refine xc_seq ?_
      refine xc_region ?_
      refine xo_rd (rd_move rfl) rfl ?_
      refine xo_rd (rd_fieldAddr rfl) rfl ?_
      refine xo_rd (rd_load1 rfl (Cl.o4 rfl)) rfl ?_
      refine xo_ef rfl (ef_call rfl (XF.mono (xf_RHeardN a.id 1 true) ?_))
      rintro v L' ⟨rfl, rfl⟩
      refine xo_rd (rd_not rfl) rfl ?_
      refine xo_rd (rd_move rfl) rfl ?_
      refine xo_grd rfl rfl (rd_move rfl) rfl ?_
      refine xo_gef rfl rfl rfl (ef_call rfl (XF.mono (xf_RTickN 9) ?_))
      rintro v L' ⟨rfl, rfl⟩
      refine xo_grd rfl rfl (rd_not rfl) rfl ?_
      refine xo_rd (rd_pickt rfl rfl) rfl ?_
      refine xo_rd (rd_move rfl) rfl ?_
      refine xo_grd rfl rfl (rd_loadB rfl Kn.o3 (by rfl)) rfl ?_
      refine xo_grd rfl rfl (rd_cast (v' := .agg (gEnc (0, 0, 0)).toArray) (rd_build (T := 101) rfl rfl rfl) (by kernel_rfl)) rfl ?_
      refine xo_grd rfl rfl (rd_cast (v' := .bool true) (rd_eqS (eqsG (0, 0, 0) (0, 0, 0)) rfl rfl) rfl) rfl ?_
      refine xo_rd (rd_pickt rfl rfl) rfl ?_
      refine xo_rd (rd_move rfl) rfl ?_
      refine xo_grd rfl rfl (rd_move rfl) rfl ?_
      refine xo_grd rfl rfl (rd_not rfl) rfl ?_
      refine xo_rd (rd_pickt rfl rfl) rfl ?_
      refine xo_rd (rd_move rfl) rfl ?_
      refine xo_grd rfl rfl (rd_move rfl) rfl ?_
      refine xo_gef rfl rfl rfl (ef_call rfl (XF.mono (xf_RPendingN) ?_))
      rintro v L' ⟨rfl, rfl⟩
      refine xo_grd rfl rfl (rd_not rfl) rfl ?_
      refine xo_rd (rd_pickt rfl rfl) rfl ?_
      refine xo_rd (rd_move rfl) rfl ?_
      refine xo_grd rfl rfl (rd_move rfl) rfl ?_
      refine xo_gef rfl rfl rfl (ef_call rfl (XF.mono (xf_RWaitingN) ?_))
      rintro v L' ⟨rfl, rfl⟩
      refine xo_grd rfl rfl (rd_len rfl) rfl ?_
      refine xo_grd rfl rfl (rd_eql rfl rfl) rfl ?_
      refine xo_rd (rd_pickt rfl rfl) rfl ?_
      refine xo_rd (rd_move rfl) rfl ?_
      refine xo_grd rfl rfl (rd_move rfl) rfl ?_
      refine xo_grd rfl rfl (rd_not rfl) rfl ?_
      refine xo_rd (rd_pickt rfl rfl) rfl ?_
      refine xo_rd (rd_move rfl) rfl ?_
      refine xo_grd rfl rfl (rd_move rfl) rfl ?_
      refine xo_grd rfl rfl (rd_not rfl) rfl ?_
      refine xo_rd (rd_pickt rfl rfl) rfl ?_
      refine xo_rd (rd_move rfl) rfl ?_
      refine xo_grd rfl rfl (rd_move rfl) rfl ?_
      refine xo_grd rfl rfl (rd_not rfl) rfl ?_
      refine xo_rd (rd_pickt rfl rfl) rfl ?_
      refine xo_rd (rd_move rfl) rfl ?_
      refine xo_grd rfl rfl (rd_move rfl) rfl ?_
      refine xo_gef rfl rfl rfl (ef_call rfl (XF.mono (xf_RIdsN) ?_))
      rintro v L' ⟨rfl, rfl⟩
      refine xo_grd rfl rfl (rd_len rfl) rfl ?_
      refine xo_grd rfl rfl (rd_eql rfl rfl) rfl ?_
      refine xo_rd (rd_pickt rfl rfl) rfl ?_
      refine xo_rd (rd_move rfl) rfl ?_
      refine xo_grd rfl rfl (rd_move rfl) rfl ?_
      refine xo_gef rfl rfl rfl (ef_call rfl (XF.mono (xf_RAudienceN) ?_))
      rintro v L' ⟨rfl, rfl⟩
      refine xo_grd rfl rfl (rd_len rfl) rfl ?_
      refine xo_grd rfl rfl (rd_eql rfl rfl) rfl ?_
      refine xo_rd (rd_pickt rfl rfl) rfl ?_
      refine xo_rd (rd_move rfl) rfl ?_
      refine xo_grd rfl rfl (rd_move rfl) rfl ?_
      refine xo_grd rfl rfl (rd_fieldAddr rfl) rfl ?_
      refine xo_grd rfl rfl (rd_load1 rfl (Cl.o4 rfl)) rfl ?_
      refine xo_gef rfl rfl rfl (ef_call rfl (XF.mono (xf_RViewersN a.id) ?_))
      rintro v L' ⟨rfl, rfl⟩
      refine xo_grd rfl rfl (rd_len rfl) rfl ?_
      refine xo_grd rfl rfl (rd_eql rfl rfl) rfl ?_
      refine xo_rd (rd_pickt rfl rfl) rfl ?_
      refine xo_rd (rd_move rfl) rfl ?_
      refine xo_gef rfl rfl rfl (ef_call rfl (XF.mono (xf_works) ?_))
      rintro v L' ⟨rfl, rfl⟩
      refine xo_rd (rd_pickt rfl rfl) rfl ?_
      refine xo_rd (rd_assign rfl) rfl ?_
      refine xo_nil ?_
      refine xq_seq ?_
      refine xc_ret ?_
    exact xq_ret1 (.inl rfl) Tryz.results14 rfl rfl
end Go.Proofs.YtmdeajdaeihniaaGreat.X
/-
  Chapter 25: a call of a room: a walk of my own.
-/
namespace Go.Proofs.YtmdeajdaeihniaaGreat.X
open Go Go.RowKit
set_option linter.unusedVariables false
set_option linter.unusedSimpArgs false
def rlE (a : Ra) (id : Int) : Int := if farI id = true then 130 else relE a.fl id
def rlA (a : Ra) (id now : Int) : Ra := if farI id = true then a else { a with fl := relF a.fl id now }
def rvE (a : Ra) (b id : Int) : Int := if (farI b || farI id) = true then 130 else revE a.fl b id
def rvA (a : Ra) (b id now : Int) : Ra := if (farI b || farI id) = true then a else { a with fl := revF a.fl b id now }
def hdB (a : Ra) (id : Int) : Bool := !farI id && holdsA a.fl id
def hdA (a : Ra) (id now : Int) (k : Bool) : Ra := if farI id = true then a else { a with fl := heardF a.fl id now k }
def tkA (a : Ra) (now : Int) : Ra := { a with fl := tickF a.fl now }
def ansE (b : Bool) : Int := if b = true then 1001 else 1000
def doE (k : Int) (a : Ra) (c : Ac) (now : Int) : Int :=
  if k = 0 then jnE a c.m else if k = 1 then lvE a c.id else if k = 2 then rqE a c.id else if k = 3 then rlE a c.id else if k = 4 then rvE a c.id c.ot
  else if k = 5 ∨ k = 6 then sbE a c.id c.cs else if k = 7 then ansE (hdB a c.id) else ansE (tickA a.fl now)
def doA (k : Int) (a : Ra) (c : Ac) (now : Int) : Ra :=
  if k = 0 then jnA a c.m else if k = 1 then lvA a c.id now else if k = 2 then rqA a c.id now else if k = 3 then rlA a c.id now else if k = 4 then rvA a c.id c.ot now
  else if k = 5 ∨ k = 6 then sbA a c.id c.fl c.cs else if k = 7 then hdA a c.id now c.fl else tkA a now
theorem xf_answer {W : World} {L : List Blk} (b : Bool) : XF Tryz.prog W 36 #[.bool b] L (fun v L' => v = .int .i64 (ansE b) ∧ L' = L) := by
  refine xf_enter (args := [_]) Tryz.func36 rfl Tryz.ntmps36 rfl ?_
  cases b with
  | false =>
    focus
      refine xc_seq ?_
      refine xc_region ?_
      refine xo_rd (rd_assign rfl) rfl ?_
      refine xo_nil ?_
      refine xq_seq ?_
      refine xc_seq ?_
      refine xc_seq ?_
      refine xc_region ?_
      refine xo_rd (rd_move rfl) rfl ?_
      refine xo_nil ?_
      refine xq_seq ?_
      refine xc_condf rfl ?_
      refine xc_skip ?_
      refine xq_seq ?_
      refine xc_seq ?_
      refine xc_region ?_
      refine xo_rd (rd_assign rfl) rfl ?_
      refine xo_nil ?_
      refine xq_seq ?_
      refine xc_ret ?_
    exact xq_ret1 (.inl rfl) Tryz.results36 rfl ⟨rfl, rfl⟩
  | true =>
    focus
      refine xc_seq ?_
      refine xc_region ?_
      refine xo_rd (rd_assign rfl) rfl ?_
      refine xo_nil ?_
      refine xq_seq ?_
      refine xc_seq ?_
      refine xc_seq ?_
      refine xc_region ?_
      refine xo_rd (rd_move rfl) rfl ?_
      refine xo_nil ?_
      refine xq_seq ?_
      refine xc_condt rfl ?_
      refine xc_seq ?_
      refine xc_region ?_
      refine xo_rd (rd_assign rfl) rfl ?_
      refine xo_nil ?_
      refine xq_seq ?_
      refine xc_ret ?_
      refine xq_then_ret ?_
    exact xq_ret1 (.inl rfl) Tryz.results36 rfl ⟨rfl, rfl⟩
/-- What a call of the floor's leaves, told of the room by itself. -/
theorem Rm.Ok.flr {W : World} {x : Rm} (hx : x.Ok) {f : FuncId} {args : Array Value} {L L0 : List Blk} {r : Nat} {φ : Value → Prop} {g : Fa} {b : Ra} (hb : b = ⟨x.ro.most, x.ro.ms, g, x.was⟩) (h : XF Tryz.prog W f args L0 (fun v L' => φ v ∧ ∃ y : Fm, y.Ok ∧ y.a = g ∧ L' = (Rm.mk x.ro x.fr y x.mb x.mo x.ws).blks r L)) :
    XF Tryz.prog W f args L0 (fun v L' => φ v ∧ ∃ y : Rm, y.Ok ∧ y.ra = b ∧ L' = y.blks r L) :=
  h.mono fun v L' ⟨hv, y, hy, hya, hL⟩ => ⟨hv, _, hx.fmk hy, by rw [hb]; unfold Rm.ra Rm.was; dsimp only; rw [hya], hL⟩
theorem xf_RqR {W : World} {L : List Blk} (r : Nat) (x : Rm) (hx : x.Ok) (id now : Int) (hg : x.fm.a.gs.length ≤ 1000000) : XF Tryz.prog W 17 #[.pointer (some ⟨r, 0, none⟩), .int .i64 id, .int .u64 now] (x.blks r L) (fun v L' => v = .int .i64 (rqE x.ra id) ∧ ∃ y : Rm, y.Ok ∧ y.ra = rqA x.ra id now ∧ L' = y.blks r L) :=
  hx.flr (by unfold rqA; split <;> rfl) (xf_RRequest r x hx id now hg)
theorem xf_RlR {W : World} {L : List Blk} (r : Nat) (x : Rm) (hx : x.Ok) (id now : Int) (hg : x.fm.a.gs.length ≤ 1000000) : XF Tryz.prog W 39 #[.pointer (some ⟨r, 0, none⟩), .int .i64 id, .int .u64 now] (x.blks r L) (fun v L' => v = .int .i64 (rlE x.ra id) ∧ ∃ y : Rm, y.Ok ∧ y.ra = rlA x.ra id now ∧ L' = y.blks r L) :=
  hx.flr (by unfold rlA; split <;> rfl) (xf_RRelease r x hx id now hg)
theorem xf_RvR {W : World} {L : List Blk} (r : Nat) (x : Rm) (hx : x.Ok) (b id now : Int) (hg : x.fm.a.gs.length ≤ 1000000) : XF Tryz.prog W 40 #[.pointer (some ⟨r, 0, none⟩), .int .i64 b, .int .i64 id, .int .u64 now] (x.blks r L) (fun v L' => v = .int .i64 (rvE x.ra b id) ∧ ∃ y : Rm, y.Ok ∧ y.ra = rvA x.ra b id now ∧ L' = y.blks r L) :=
  hx.flr (by unfold rvA; split <;> rfl) (xf_RRevoke r x hx b id now hg)
theorem xf_HdR {W : World} {L : List Blk} (r : Nat) (x : Rm) (hx : x.Ok) (id now : Int) (k : Bool) : XF Tryz.prog W 41 #[.pointer (some ⟨r, 0, none⟩), .int .i64 id, .int .u64 now, .bool k] (x.blks r L) (fun v L' => v = .bool (hdB x.ra id) ∧ ∃ y : Rm, y.Ok ∧ y.ra = hdA x.ra id now k ∧ L' = y.blks r L) :=
  hx.flr (by unfold hdA; split <;> rfl) (xf_RHeard r x hx id now k)
theorem xf_TkR {W : World} {L : List Blk} (r : Nat) (x : Rm) (hx : x.Ok) (now : Int) (hg : x.fm.a.gs.length ≤ 1000000) (h0 : 0 ≤ x.fm.a.heard) (hn : now ≤ 18446744073709551615) : XF Tryz.prog W 42 #[.pointer (some ⟨r, 0, none⟩), .int .u64 now] (x.blks r L) (fun v L' => v = .bool (tickA x.ra.fl now) ∧ ∃ y : Rm, y.Ok ∧ y.ra = tkA x.ra now ∧ L' = y.blks r L) :=
  hx.flr rfl (xf_RTick r x hx now hg h0 hn)
theorem XF.val {P : Program} {W : World} {f : FuncId} {args : Array Value} {L : List Blk} {u u' : Value} {ψ : List Blk → Prop} (h : XF P W f args L (fun v L' => v = u ∧ ψ L')) (e : u = u') : XF P W f args L (fun v L' => v = u' ∧ ψ L') := e ▸ h
set_option maxHeartbeats 3200000 in
theorem xf_does {W : World} {L : List Blk} (r : Nat) (x : Rm) (hx : x.Ok) (a : Ac) (now k : Int) (hk : (a.d.tmod 9 + 9) % 9 = k) (hg : x.fm.a.gs.length ≤ 1000000) (h0 : 0 ≤ x.fm.a.heard) (hn : now ≤ 18446744073709551615) (hr : Rs W (x.blks r L) a.p (ints .i64 a.cs)) (hl : a.cs.length ≤ 1000) :
    XF Tryz.prog W 10 #[.pointer (some ⟨r, 0, none⟩), .agg a.enc.toArray, .int .u64 now] (x.blks r L) (fun v L' => v = .int .i64 (doE k x.ra a now) ∧ ∃ y : Rm, y.Ok ∧ y.ra = doA k x.ra a now ∧ L' = y.blks r L) := by
  have hpk := fun L' => xf_pickI (W := W) (L := L') a.d 9 (by decide) (by decide)
  rw [hk] at hpk
  have hk9 : 0 ≤ k ∧ k < 9 := by omega
  obtain ⟨e, he⟩ : ∃ e, doE k x.ra a now = e := ⟨_, rfl⟩
  obtain ⟨z, hz⟩ : ∃ z, doA k x.ra a now = z := ⟨_, rfl⟩
  rw [he, hz]
  refine xf_enter (args := [_, _, _]) Tryz.func10 rfl Tryz.ntmps10 rfl ?_
  by_cases hk5 : k = 5 ∨ k = 6
  · have hE : e = sbE x.ra a.id a.cs := by rw [← he]; unfold doE; rw [if_neg (by omega), if_neg (by omega), if_neg (by omega), if_neg (by omega), if_neg (by omega), if_pos hk5]
    have hZ : z = sbA x.ra a.id a.fl a.cs := by rw [← hz]; unfold doA; rw [if_neg (by omega), if_neg (by omega), if_neg (by omega), if_neg (by omega), if_neg (by omega), if_pos hk5]
    subst hE hZ
    clear he hz
    rcases hk5 with rfl | rfl
    · skip
      focus
        refine xc_seq ?_
        refine xc_region ?_
        refine xo_ef rfl (ef_box rfl fun r4 => ?_)
        refine xo_rd (rd_assign rfl) rfl ?_
        refine xo_nil ?_
        refine xq_seq ?_
        refine xc_seq ?_
        refine xc_seq ?_
        refine xc_region ?_
        refine xo_rd (rd_fieldAddr rfl) rfl ?_
        refine xo_rd (rd_load1 rfl (Cl.o0 rfl)) rfl ?_
        refine xo_ef rfl (ef_call rfl (XF.mono (hpk _) ?_))
        rintro v L' ⟨rfl, rfl⟩
        refine xo_nil ?_
        refine xq_seq ?_
        refine xc_block ?_
        refine xc_seq ?_
        refine xc_region ?_
        refine xo_rd (rd_eql rfl rfl) rfl ?_
        refine xo_rd (rd_assign rfl) rfl ?_
        refine xo_nil ?_
        refine xq_seq ?_
        refine xc_condf rfl ?_
        refine xc_seq ?_
        refine xc_region ?_
        refine xo_rd (rd_eql rfl rfl) rfl ?_
        refine xo_rd (rd_assign rfl) rfl ?_
        refine xo_nil ?_
        refine xq_seq ?_
        refine xc_condf rfl ?_
        refine xc_seq ?_
        refine xc_region ?_
        refine xo_rd (rd_eql rfl rfl) rfl ?_
        refine xo_rd (rd_assign rfl) rfl ?_
        refine xo_nil ?_
        refine xq_seq ?_
        refine xc_condf rfl ?_
        refine xc_seq ?_
        refine xc_region ?_
        refine xo_rd (rd_eql rfl rfl) rfl ?_
        refine xo_rd (rd_assign rfl) rfl ?_
        refine xo_nil ?_
        refine xq_seq ?_
        refine xc_condf rfl ?_
        refine xc_seq ?_
        refine xc_region ?_
        refine xo_rd (rd_eql rfl rfl) rfl ?_
        refine xo_rd (rd_assign rfl) rfl ?_
        refine xo_nil ?_
        refine xq_seq ?_
        refine xc_condf rfl ?_
        refine xc_seq ?_
        refine xc_seq ?_
        refine xc_region ?_
        refine xo_rd (rd_eql rfl rfl) rfl ?_
        refine xo_rd (rd_assign rfl) rfl ?_
        refine xo_nil ?_
        refine xq_seq ?_
        refine xc_condt rfl ?_
        refine xc_skip ?_
        refine xq_seq ?_
        refine xc_condt rfl ?_
        refine xc_seq ?_
        refine xc_region ?_
        refine xo_rd (rd_assign rfl) rfl ?_
        refine xo_nil ?_
        refine xq_seq ?_
      focus
        refine xc_seq ?_
        refine xc_region ?_
        refine xo_rd (rd_move rfl) rfl ?_
        refine xo_rd (rd_fieldAddr rfl) rfl ?_
        refine xo_rd (rd_load1 rfl (Cl.o0 rfl)) rfl ?_
        refine xo_ef rfl (ef_appendQS [] _ [] (news := ints .i64 a.cs) rfl rfl SlQ.nil rfl (hr.mono (by intro z hz; simp [hz])) (by simp [ints]) (ints_one _ _) (by decide) (by omega) (by omega) fun p2 c2 l2 hO2 hk2 => ?_)
        refine xo_rd (rd_assign rfl) rfl ?_
        refine xo_nil ?_
        refine xq_seq ?_
      rw [Nat.zero_add, List.nil_append] at hO2
      refine xc_perm (L' := (r4, Obj.cells a.enc.toArray 52 (0, 0)) :: (l2 ++ x.blks r L)) List.perm_middle ?_
      have hsb := (xf_RSubscribe (W := W) (L := (r4, Obj.cells a.enc.toArray 52 (0, 0)) :: l2 ++ L) r x hx a.id a.fl p2 (0 + a.cs.length) c2 a.cs (Nat.zero_add _).symm (hO2.rs fun z hz => (Rm.sub r x _).subset (List.mem_cons_of_mem _ (List.mem_append_left _ hz))) (by omega) hk2).perm (x.front r (_ :: l2) L)
      focus
        refine xc_seq ?_
        refine xc_region ?_
        refine xo_rd (rd_move rfl) rfl ?_
        refine xo_rd (rd_fieldAddr rfl) rfl ?_
        refine xo_rd (rd_load1 rfl (Cl.o0 rfl)) rfl ?_
        refine xo_rd (rd_fieldAddr rfl) rfl ?_
        refine xo_rd (rd_load1 rfl (Cl.o0 rfl)) rfl ?_
        refine xo_rd (rd_move rfl) rfl ?_
        refine xo_rd (rd_cast (v' := .agg (wEnc a.fl p2 (0 + a.cs.length) c2).toArray) (rd_build (T := 64) rfl rfl rfl) (by kernel_rfl)) rfl ?_
        refine xo_ef rfl (ef_call rfl (XF.mono (hsb) ?_))
        rintro v L' ⟨rfl, y, hy, hya, rfl⟩
        refine xo_rd (rd_assign rfl) rfl ?_
        refine xo_nil ?_
        refine xq_seq ?_
        refine xc_seq ?_
        refine xc_seq ?_
        refine xc_region ?_
        refine xo_rd (rd_assign rfl) rfl ?_
        refine xo_nil ?_
        refine xq_seq ?_
        refine xc_block ?_
      refine xc_perm (L' := (r4, Obj.cells a.enc.toArray 52 (0, 0)) :: (l2 ++ y.blks r L)) (y.front r ((r4, Obj.cells a.enc.toArray 52 (0, 0)) :: l2) L).symm ?_
      refine xc_loopI (ι := SpS) (fun s => s.i ≤ a.cs.length ∧ s.xs.length = a.cs.length ∧ SlQ 1 3 (.slice p2 a.cs.length c2) a.cs.length (ints .i64 s.xs) s.l) (fun s => a.cs.length - s.i) (fun s => (r4, Obj.cells a.enc.toArray 52 (0, 0)) :: (s.l ++ y.blks r L)) (fun s => [(7, .slice p2 (0 + a.cs.length) c2), (8, .int .i64 (sbE x.ra a.id a.cs)), (9, .int .i64 s.i)]) ⟨0, a.cs, l2⟩ ⟨Nat.zero_le _, rfl, hO2⟩ rfl (by repeat (first | exact keep_nil | refine keep_cons rfl ?_)) ?_
      rintro ⟨i, xs, l3⟩ ⟨hi, hxl, hO3⟩
      dsimp only at hi hxl hO3 ⊢
      by_cases hin : i < a.cs.length
      · obtain ⟨b, o, hpb, hc⟩ := (hO3.rsl (W := W) (R := y.blks r L)).int (i := i) (by omega)
        subst hpb
        focus
          refine xc_seq ?_
          refine xc_seq ?_
          refine xc_region ?_
          refine xo_rd (rd_move rfl) rfl ?_
          refine xo_rd (rd_move rfl) rfl ?_
          refine xo_rd (rd_len rfl) rfl ?_
          refine xo_rd (rd_lss rfl rfl) rfl ?_
          refine xo_nil ?_
          refine xq_seq ?_
          refine xc_dec rfl (fun hz1 => ?_) (fun hz1 => (by exfalso; omega))
          refine xc_skip ?_
          refine xq_seq ?_
          refine xc_seq ?_
          refine xc_block ?_
          refine xc_region ?_
          refine xo_rd (rd_move rfl) rfl ?_
          refine xo_rd (rd_move rfl) rfl ?_
          refine xo_rd (rd_indexAddr rfl rfl (by omega) (by omega)) rfl ?_
          refine xo_ef rfl (ef_storeQ1 [_] (y.blks r L) i (v := .int .i64 99) hO3 rfl (by omega) rfl rfl rfl (by omega) rfl fun l4 hO4 => ?_)
          refine xo_nil ?_
          refine xq_block ?_
          refine xq_seq ?_
          refine xc_region ?_
          refine xo_rd (rd_move rfl) rfl ?_
          refine xo_rd (rd_addn rfl rfl (by omega) (by omega)) rfl ?_
          refine xo_rd (rd_assign rfl) rfl ?_
          refine xo_nil ?_
        exact xq_roundI (⟨i + 1, xs.set i 99, l4⟩ : SpS) ⟨by dsimp only; omega, by dsimp only; rw [List.length_set]; exact hxl, by dsimp only; rw [ints_set]; exact hO4⟩ (by dsimp only; omega) rfl (by repeat (first | exact keep_nil | refine keep_cons rfl ?_))
      · skip
        focus
          refine xc_seq ?_
          refine xc_seq ?_
          refine xc_region ?_
          refine xo_rd (rd_move rfl) rfl ?_
          refine xo_rd (rd_move rfl) rfl ?_
          refine xo_rd (rd_len rfl) rfl ?_
          refine xo_rd (rd_lss rfl rfl) rfl ?_
          refine xo_nil ?_
          refine xq_seq ?_
          refine xc_dec rfl (fun hz1 => (by exfalso; omega)) (fun hz1 => ?_)
          refine xc_exit ?_
          refine xq_then_exit ?_
          refine xq_then_exit ?_
          refine xq_block_hit ?_
          refine xq_seq ?_
          refine xc_seq ?_
          refine xc_region ?_
          refine xo_rd (rd_move rfl) rfl ?_
          refine xo_rd (rd_assign rfl) rfl ?_
          refine xo_nil ?_
          refine xq_seq ?_
          refine xc_ret ?_
          refine xq_block_ret ?_
          refine xq_then_ret ?_
        exact xq_sub ((List.sublist_append_right l3 _).trans (List.sublist_cons_self _ _)) (xq_ret1 (.inl rfl) Tryz.results10 rfl ⟨rfl, y, hy, hya, rfl⟩)
    · skip
      focus
        refine xc_seq ?_
        refine xc_region ?_
        refine xo_ef rfl (ef_box rfl fun r4 => ?_)
        refine xo_rd (rd_assign rfl) rfl ?_
        refine xo_nil ?_
        refine xq_seq ?_
        refine xc_seq ?_
        refine xc_seq ?_
        refine xc_region ?_
        refine xo_rd (rd_fieldAddr rfl) rfl ?_
        refine xo_rd (rd_load1 rfl (Cl.o0 rfl)) rfl ?_
        refine xo_ef rfl (ef_call rfl (XF.mono (hpk _) ?_))
        rintro v L' ⟨rfl, rfl⟩
        refine xo_nil ?_
        refine xq_seq ?_
        refine xc_block ?_
        refine xc_seq ?_
        refine xc_region ?_
        refine xo_rd (rd_eql rfl rfl) rfl ?_
        refine xo_rd (rd_assign rfl) rfl ?_
        refine xo_nil ?_
        refine xq_seq ?_
        refine xc_condf rfl ?_
        refine xc_seq ?_
        refine xc_region ?_
        refine xo_rd (rd_eql rfl rfl) rfl ?_
        refine xo_rd (rd_assign rfl) rfl ?_
        refine xo_nil ?_
        refine xq_seq ?_
        refine xc_condf rfl ?_
        refine xc_seq ?_
        refine xc_region ?_
        refine xo_rd (rd_eql rfl rfl) rfl ?_
        refine xo_rd (rd_assign rfl) rfl ?_
        refine xo_nil ?_
        refine xq_seq ?_
        refine xc_condf rfl ?_
        refine xc_seq ?_
        refine xc_region ?_
        refine xo_rd (rd_eql rfl rfl) rfl ?_
        refine xo_rd (rd_assign rfl) rfl ?_
        refine xo_nil ?_
        refine xq_seq ?_
        refine xc_condf rfl ?_
        refine xc_seq ?_
        refine xc_region ?_
        refine xo_rd (rd_eql rfl rfl) rfl ?_
        refine xo_rd (rd_assign rfl) rfl ?_
        refine xo_nil ?_
        refine xq_seq ?_
        refine xc_condf rfl ?_
        refine xc_seq ?_
        refine xc_seq ?_
        refine xc_region ?_
        refine xo_rd (rd_eql rfl rfl) rfl ?_
        refine xo_rd (rd_assign rfl) rfl ?_
        refine xo_nil ?_
        refine xq_seq ?_
        refine xc_condf rfl ?_
        refine xc_region ?_
        refine xo_rd (rd_eql rfl rfl) rfl ?_
        refine xo_rd (rd_assign rfl) rfl ?_
        refine xo_nil ?_
        refine xq_seq ?_
        refine xc_condt rfl ?_
        refine xc_seq ?_
        refine xc_region ?_
        refine xo_rd (rd_assign rfl) rfl ?_
        refine xo_nil ?_
        refine xq_seq ?_
      focus
        refine xc_seq ?_
        refine xc_region ?_
        refine xo_rd (rd_move rfl) rfl ?_
        refine xo_rd (rd_fieldAddr rfl) rfl ?_
        refine xo_rd (rd_load1 rfl (Cl.o0 rfl)) rfl ?_
        refine xo_ef rfl (ef_appendQS [] _ [] (news := ints .i64 a.cs) rfl rfl SlQ.nil rfl (hr.mono (by intro z hz; simp [hz])) (by simp [ints]) (ints_one _ _) (by decide) (by omega) (by omega) fun p2 c2 l2 hO2 hk2 => ?_)
        refine xo_rd (rd_assign rfl) rfl ?_
        refine xo_nil ?_
        refine xq_seq ?_
      rw [Nat.zero_add, List.nil_append] at hO2
      refine xc_perm (L' := (r4, Obj.cells a.enc.toArray 52 (0, 0)) :: (l2 ++ x.blks r L)) List.perm_middle ?_
      have hsb := (xf_RSubscribe (W := W) (L := (r4, Obj.cells a.enc.toArray 52 (0, 0)) :: l2 ++ L) r x hx a.id a.fl p2 (0 + a.cs.length) c2 a.cs (Nat.zero_add _).symm (hO2.rs fun z hz => (Rm.sub r x _).subset (List.mem_cons_of_mem _ (List.mem_append_left _ hz))) (by omega) hk2).perm (x.front r (_ :: l2) L)
      focus
        refine xc_seq ?_
        refine xc_region ?_
        refine xo_rd (rd_move rfl) rfl ?_
        refine xo_rd (rd_fieldAddr rfl) rfl ?_
        refine xo_rd (rd_load1 rfl (Cl.o0 rfl)) rfl ?_
        refine xo_rd (rd_fieldAddr rfl) rfl ?_
        refine xo_rd (rd_load1 rfl (Cl.o0 rfl)) rfl ?_
        refine xo_rd (rd_move rfl) rfl ?_
        refine xo_rd (rd_cast (v' := .agg (wEnc a.fl p2 (0 + a.cs.length) c2).toArray) (rd_build (T := 64) rfl rfl rfl) (by kernel_rfl)) rfl ?_
        refine xo_ef rfl (ef_call rfl (XF.mono (hsb) ?_))
        rintro v L' ⟨rfl, y, hy, hya, rfl⟩
        refine xo_rd (rd_assign rfl) rfl ?_
        refine xo_nil ?_
        refine xq_seq ?_
        refine xc_seq ?_
        refine xc_seq ?_
        refine xc_region ?_
        refine xo_rd (rd_assign rfl) rfl ?_
        refine xo_nil ?_
        refine xq_seq ?_
        refine xc_block ?_
      refine xc_perm (L' := (r4, Obj.cells a.enc.toArray 52 (0, 0)) :: (l2 ++ y.blks r L)) (y.front r ((r4, Obj.cells a.enc.toArray 52 (0, 0)) :: l2) L).symm ?_
      refine xc_loopI (ι := SpS) (fun s => s.i ≤ a.cs.length ∧ s.xs.length = a.cs.length ∧ SlQ 1 3 (.slice p2 a.cs.length c2) a.cs.length (ints .i64 s.xs) s.l) (fun s => a.cs.length - s.i) (fun s => (r4, Obj.cells a.enc.toArray 52 (0, 0)) :: (s.l ++ y.blks r L)) (fun s => [(7, .slice p2 (0 + a.cs.length) c2), (8, .int .i64 (sbE x.ra a.id a.cs)), (9, .int .i64 s.i)]) ⟨0, a.cs, l2⟩ ⟨Nat.zero_le _, rfl, hO2⟩ rfl (by repeat (first | exact keep_nil | refine keep_cons rfl ?_)) ?_
      rintro ⟨i, xs, l3⟩ ⟨hi, hxl, hO3⟩
      dsimp only at hi hxl hO3 ⊢
      by_cases hin : i < a.cs.length
      · obtain ⟨b, o, hpb, hc⟩ := (hO3.rsl (W := W) (R := y.blks r L)).int (i := i) (by omega)
        subst hpb
        focus
          refine xc_seq ?_
          refine xc_seq ?_
          refine xc_region ?_
          refine xo_rd (rd_move rfl) rfl ?_
          refine xo_rd (rd_move rfl) rfl ?_
          refine xo_rd (rd_len rfl) rfl ?_
          refine xo_rd (rd_lss rfl rfl) rfl ?_
          refine xo_nil ?_
          refine xq_seq ?_
          refine xc_dec rfl (fun hz1 => ?_) (fun hz1 => (by exfalso; omega))
          refine xc_skip ?_
          refine xq_seq ?_
          refine xc_seq ?_
          refine xc_block ?_
          refine xc_region ?_
          refine xo_rd (rd_move rfl) rfl ?_
          refine xo_rd (rd_move rfl) rfl ?_
          refine xo_rd (rd_indexAddr rfl rfl (by omega) (by omega)) rfl ?_
          refine xo_ef rfl (ef_storeQ1 [_] (y.blks r L) i (v := .int .i64 99) hO3 rfl (by omega) rfl rfl rfl (by omega) rfl fun l4 hO4 => ?_)
          refine xo_nil ?_
          refine xq_block ?_
          refine xq_seq ?_
          refine xc_region ?_
          refine xo_rd (rd_move rfl) rfl ?_
          refine xo_rd (rd_addn rfl rfl (by omega) (by omega)) rfl ?_
          refine xo_rd (rd_assign rfl) rfl ?_
          refine xo_nil ?_
        exact xq_roundI (⟨i + 1, xs.set i 99, l4⟩ : SpS) ⟨by dsimp only; omega, by dsimp only; rw [List.length_set]; exact hxl, by dsimp only; rw [ints_set]; exact hO4⟩ (by dsimp only; omega) rfl (by repeat (first | exact keep_nil | refine keep_cons rfl ?_))
      · skip
        focus
          refine xc_seq ?_
          refine xc_seq ?_
          refine xc_region ?_
          refine xo_rd (rd_move rfl) rfl ?_
          refine xo_rd (rd_move rfl) rfl ?_
          refine xo_rd (rd_len rfl) rfl ?_
          refine xo_rd (rd_lss rfl rfl) rfl ?_
          refine xo_nil ?_
          refine xq_seq ?_
          refine xc_dec rfl (fun hz1 => (by exfalso; omega)) (fun hz1 => ?_)
          refine xc_exit ?_
          refine xq_then_exit ?_
          refine xq_then_exit ?_
          refine xq_block_hit ?_
          refine xq_seq ?_
          refine xc_seq ?_
          refine xc_region ?_
          refine xo_rd (rd_move rfl) rfl ?_
          refine xo_rd (rd_assign rfl) rfl ?_
          refine xo_nil ?_
          refine xq_seq ?_
          refine xc_ret ?_
          refine xq_block_ret ?_
          refine xq_then_ret ?_
        exact xq_sub ((List.sublist_append_right l3 _).trans (List.sublist_cons_self _ _)) (xq_ret1 (.inl rfl) Tryz.results10 rfl ⟨rfl, y, hy, hya, rfl⟩)
  · have hcase : k = 0 ∨ k = 1 ∨ k = 2 ∨ k = 3 ∨ k = 4 ∨ k = 7 ∨ k = 8 := by omega
    rcases hcase with rfl | rfl | rfl | rfl | rfl | rfl | rfl
    · skip
      focus
        refine xc_seq ?_
        refine xc_region ?_
        refine xo_ef rfl (ef_box rfl fun r4 => ?_)
        refine xo_rd (rd_assign rfl) rfl ?_
        refine xo_nil ?_
        refine xq_seq ?_
        refine xc_seq ?_
        refine xc_seq ?_
        refine xc_region ?_
        refine xo_rd (rd_fieldAddr rfl) rfl ?_
        refine xo_rd (rd_load1 rfl (Cl.o0 rfl)) rfl ?_
        refine xo_ef rfl (ef_call rfl (XF.mono (hpk _) ?_))
        rintro v L' ⟨rfl, rfl⟩
        refine xo_nil ?_
        refine xq_seq ?_
        refine xc_block ?_
        refine xc_seq ?_
        refine xc_region ?_
        refine xo_rd (rd_eql rfl rfl) rfl ?_
        refine xo_rd (rd_assign rfl) rfl ?_
        refine xo_nil ?_
        refine xq_seq ?_
        refine xc_condt rfl ?_
        refine xc_seq ?_
        refine xc_region ?_
        refine xo_rd (rd_move rfl) rfl ?_
        refine xo_rd (rd_fieldAddr rfl) rfl ?_
        refine xo_rd (rd_loadA (vs := a.m.enc) rfl rfl (cl_sub (b := r4) (vs := a.enc) (T := 52) (fr := (0, 0)) 1 (List.Mem.head _) rfl)) rfl ?_
        refine xo_ef rfl (ef_call rfl (XF.mono ((xf_RJoin (L := [_] ++ L) r x hx a.m).perm (x.front r [_] L)) ?_))
        rintro v L' ⟨rfl, y, hy, hya, rfl⟩
        refine xo_rd (rd_assign rfl) rfl ?_
        refine xo_nil ?_
        refine xq_seq ?_
        refine xc_ret ?_
        refine xq_block_ret ?_
        refine xq_then_ret ?_
      exact xq_sub (y.blks_sub r [_] L) (xq_ret1 (.inl rfl) Tryz.results10 rfl ⟨congrArg (Value.int .i64) he, y, hy, hya.trans hz, rfl⟩)
    · skip
      focus
        refine xc_seq ?_
        refine xc_region ?_
        refine xo_ef rfl (ef_box rfl fun r4 => ?_)
        refine xo_rd (rd_assign rfl) rfl ?_
        refine xo_nil ?_
        refine xq_seq ?_
        refine xc_seq ?_
        refine xc_seq ?_
        refine xc_region ?_
        refine xo_rd (rd_fieldAddr rfl) rfl ?_
        refine xo_rd (rd_load1 rfl (Cl.o0 rfl)) rfl ?_
        refine xo_ef rfl (ef_call rfl (XF.mono (hpk _) ?_))
        rintro v L' ⟨rfl, rfl⟩
        refine xo_nil ?_
        refine xq_seq ?_
        refine xc_block ?_
        refine xc_seq ?_
        refine xc_region ?_
        refine xo_rd (rd_eql rfl rfl) rfl ?_
        refine xo_rd (rd_assign rfl) rfl ?_
        refine xo_nil ?_
        refine xq_seq ?_
        refine xc_condf rfl ?_
        refine xc_seq ?_
        refine xc_region ?_
        refine xo_rd (rd_eql rfl rfl) rfl ?_
        refine xo_rd (rd_assign rfl) rfl ?_
        refine xo_nil ?_
        refine xq_seq ?_
        refine xc_condt rfl ?_
        refine xc_seq ?_
        refine xc_region ?_
        refine xo_rd (rd_move rfl) rfl ?_
        refine xo_rd (rd_fieldAddr rfl) rfl ?_
        refine xo_rd (rd_load1 rfl (Cl.o0 rfl)) rfl ?_
        refine xo_rd (rd_move rfl) rfl ?_
        refine xo_ef rfl (ef_call rfl (XF.mono ((xf_RLeave (L := [_] ++ L) r x hx a.id now hg).perm (x.front r [_] L)) ?_))
        rintro v L' ⟨rfl, y, hy, hya, rfl⟩
        refine xo_rd (rd_assign rfl) rfl ?_
        refine xo_nil ?_
        refine xq_seq ?_
        refine xc_ret ?_
        refine xq_block_ret ?_
        refine xq_then_ret ?_
      exact xq_sub (y.blks_sub r [_] L) (xq_ret1 (.inl rfl) Tryz.results10 rfl ⟨congrArg (Value.int .i64) he, y, hy, hya.trans hz, rfl⟩)
    · skip
      focus
        refine xc_seq ?_
        refine xc_region ?_
        refine xo_ef rfl (ef_box rfl fun r4 => ?_)
        refine xo_rd (rd_assign rfl) rfl ?_
        refine xo_nil ?_
        refine xq_seq ?_
        refine xc_seq ?_
        refine xc_seq ?_
        refine xc_region ?_
        refine xo_rd (rd_fieldAddr rfl) rfl ?_
        refine xo_rd (rd_load1 rfl (Cl.o0 rfl)) rfl ?_
        refine xo_ef rfl (ef_call rfl (XF.mono (hpk _) ?_))
        rintro v L' ⟨rfl, rfl⟩
        refine xo_nil ?_
        refine xq_seq ?_
        refine xc_block ?_
        refine xc_seq ?_
        refine xc_region ?_
        refine xo_rd (rd_eql rfl rfl) rfl ?_
        refine xo_rd (rd_assign rfl) rfl ?_
        refine xo_nil ?_
        refine xq_seq ?_
        refine xc_condf rfl ?_
        refine xc_seq ?_
        refine xc_region ?_
        refine xo_rd (rd_eql rfl rfl) rfl ?_
        refine xo_rd (rd_assign rfl) rfl ?_
        refine xo_nil ?_
        refine xq_seq ?_
        refine xc_condf rfl ?_
        refine xc_seq ?_
        refine xc_region ?_
        refine xo_rd (rd_eql rfl rfl) rfl ?_
        refine xo_rd (rd_assign rfl) rfl ?_
        refine xo_nil ?_
        refine xq_seq ?_
        refine xc_condt rfl ?_
        refine xc_seq ?_
        refine xc_region ?_
        refine xo_rd (rd_move rfl) rfl ?_
        refine xo_rd (rd_fieldAddr rfl) rfl ?_
        refine xo_rd (rd_load1 rfl (Cl.o0 rfl)) rfl ?_
        refine xo_rd (rd_move rfl) rfl ?_
        refine xo_ef rfl (ef_call rfl (XF.mono ((xf_RqR (L := [_] ++ L) r x hx a.id now hg).perm (x.front r [_] L)) ?_))
        rintro v L' ⟨rfl, y, hy, hya, rfl⟩
        refine xo_rd (rd_assign rfl) rfl ?_
        refine xo_nil ?_
        refine xq_seq ?_
        refine xc_ret ?_
        refine xq_block_ret ?_
        refine xq_then_ret ?_
      exact xq_sub (y.blks_sub r [_] L) (xq_ret1 (.inl rfl) Tryz.results10 rfl ⟨congrArg (Value.int .i64) he, y, hy, hya.trans hz, rfl⟩)
    · skip
      focus
        refine xc_seq ?_
        refine xc_region ?_
        refine xo_ef rfl (ef_box rfl fun r4 => ?_)
        refine xo_rd (rd_assign rfl) rfl ?_
        refine xo_nil ?_
        refine xq_seq ?_
        refine xc_seq ?_
        refine xc_seq ?_
        refine xc_region ?_
        refine xo_rd (rd_fieldAddr rfl) rfl ?_
        refine xo_rd (rd_load1 rfl (Cl.o0 rfl)) rfl ?_
        refine xo_ef rfl (ef_call rfl (XF.mono (hpk _) ?_))
        rintro v L' ⟨rfl, rfl⟩
        refine xo_nil ?_
        refine xq_seq ?_
        refine xc_block ?_
        refine xc_seq ?_
        refine xc_region ?_
        refine xo_rd (rd_eql rfl rfl) rfl ?_
        refine xo_rd (rd_assign rfl) rfl ?_
        refine xo_nil ?_
        refine xq_seq ?_
        refine xc_condf rfl ?_
        refine xc_seq ?_
        refine xc_region ?_
        refine xo_rd (rd_eql rfl rfl) rfl ?_
        refine xo_rd (rd_assign rfl) rfl ?_
        refine xo_nil ?_
        refine xq_seq ?_
        refine xc_condf rfl ?_
        refine xc_seq ?_
        refine xc_region ?_
        refine xo_rd (rd_eql rfl rfl) rfl ?_
        refine xo_rd (rd_assign rfl) rfl ?_
        refine xo_nil ?_
        refine xq_seq ?_
        refine xc_condf rfl ?_
        refine xc_seq ?_
        refine xc_region ?_
        refine xo_rd (rd_eql rfl rfl) rfl ?_
        refine xo_rd (rd_assign rfl) rfl ?_
        refine xo_nil ?_
        refine xq_seq ?_
        refine xc_condt rfl ?_
        refine xc_seq ?_
        refine xc_region ?_
        refine xo_rd (rd_move rfl) rfl ?_
        refine xo_rd (rd_fieldAddr rfl) rfl ?_
        refine xo_rd (rd_load1 rfl (Cl.o0 rfl)) rfl ?_
        refine xo_rd (rd_move rfl) rfl ?_
        refine xo_ef rfl (ef_call rfl (XF.mono ((xf_RlR (L := [_] ++ L) r x hx a.id now hg).perm (x.front r [_] L)) ?_))
        rintro v L' ⟨rfl, y, hy, hya, rfl⟩
        refine xo_rd (rd_assign rfl) rfl ?_
        refine xo_nil ?_
        refine xq_seq ?_
        refine xc_ret ?_
        refine xq_block_ret ?_
        refine xq_then_ret ?_
      exact xq_sub (y.blks_sub r [_] L) (xq_ret1 (.inl rfl) Tryz.results10 rfl ⟨congrArg (Value.int .i64) he, y, hy, hya.trans hz, rfl⟩)
    · skip
      focus
        refine xc_seq ?_
        refine xc_region ?_
        refine xo_ef rfl (ef_box rfl fun r4 => ?_)
        refine xo_rd (rd_assign rfl) rfl ?_
        refine xo_nil ?_
        refine xq_seq ?_
        refine xc_seq ?_
        refine xc_seq ?_
        refine xc_region ?_
        refine xo_rd (rd_fieldAddr rfl) rfl ?_
        refine xo_rd (rd_load1 rfl (Cl.o0 rfl)) rfl ?_
        refine xo_ef rfl (ef_call rfl (XF.mono (hpk _) ?_))
        rintro v L' ⟨rfl, rfl⟩
        refine xo_nil ?_
        refine xq_seq ?_
        refine xc_block ?_
        refine xc_seq ?_
        refine xc_region ?_
        refine xo_rd (rd_eql rfl rfl) rfl ?_
        refine xo_rd (rd_assign rfl) rfl ?_
        refine xo_nil ?_
        refine xq_seq ?_
        refine xc_condf rfl ?_
        refine xc_seq ?_
        refine xc_region ?_
        refine xo_rd (rd_eql rfl rfl) rfl ?_
        refine xo_rd (rd_assign rfl) rfl ?_
        refine xo_nil ?_
        refine xq_seq ?_
        refine xc_condf rfl ?_
        refine xc_seq ?_
        refine xc_region ?_
        refine xo_rd (rd_eql rfl rfl) rfl ?_
        refine xo_rd (rd_assign rfl) rfl ?_
        refine xo_nil ?_
        refine xq_seq ?_
        refine xc_condf rfl ?_
        refine xc_seq ?_
        refine xc_region ?_
        refine xo_rd (rd_eql rfl rfl) rfl ?_
        refine xo_rd (rd_assign rfl) rfl ?_
        refine xo_nil ?_
        refine xq_seq ?_
        refine xc_condf rfl ?_
        refine xc_seq ?_
        refine xc_region ?_
        refine xo_rd (rd_eql rfl rfl) rfl ?_
        refine xo_rd (rd_assign rfl) rfl ?_
        refine xo_nil ?_
        refine xq_seq ?_
        refine xc_condt rfl ?_
        refine xc_seq ?_
        refine xc_region ?_
        refine xo_rd (rd_move rfl) rfl ?_
        refine xo_rd (rd_fieldAddr rfl) rfl ?_
        refine xo_rd (rd_load1 rfl (Cl.o0 rfl)) rfl ?_
        refine xo_rd (rd_fieldAddr rfl) rfl ?_
        refine xo_rd (rd_load1 rfl (Cl.o0 rfl)) rfl ?_
        refine xo_rd (rd_move rfl) rfl ?_
        refine xo_ef rfl (ef_call rfl (XF.mono ((xf_RvR (L := [_] ++ L) r x hx a.id a.ot now hg).perm (x.front r [_] L)) ?_))
        rintro v L' ⟨rfl, y, hy, hya, rfl⟩
        refine xo_rd (rd_assign rfl) rfl ?_
        refine xo_nil ?_
        refine xq_seq ?_
        refine xc_ret ?_
        refine xq_block_ret ?_
        refine xq_then_ret ?_
      exact xq_sub (y.blks_sub r [_] L) (xq_ret1 (.inl rfl) Tryz.results10 rfl ⟨congrArg (Value.int .i64) he, y, hy, hya.trans hz, rfl⟩)
    · skip
      focus
        refine xc_seq ?_
        refine xc_region ?_
        refine xo_ef rfl (ef_box rfl fun r4 => ?_)
        refine xo_rd (rd_assign rfl) rfl ?_
        refine xo_nil ?_
        refine xq_seq ?_
        refine xc_seq ?_
        refine xc_seq ?_
        refine xc_region ?_
        refine xo_rd (rd_fieldAddr rfl) rfl ?_
        refine xo_rd (rd_load1 rfl (Cl.o0 rfl)) rfl ?_
        refine xo_ef rfl (ef_call rfl (XF.mono (hpk _) ?_))
        rintro v L' ⟨rfl, rfl⟩
        refine xo_nil ?_
        refine xq_seq ?_
        refine xc_block ?_
        refine xc_seq ?_
        refine xc_region ?_
        refine xo_rd (rd_eql rfl rfl) rfl ?_
        refine xo_rd (rd_assign rfl) rfl ?_
        refine xo_nil ?_
        refine xq_seq ?_
        refine xc_condf rfl ?_
        refine xc_seq ?_
        refine xc_region ?_
        refine xo_rd (rd_eql rfl rfl) rfl ?_
        refine xo_rd (rd_assign rfl) rfl ?_
        refine xo_nil ?_
        refine xq_seq ?_
        refine xc_condf rfl ?_
        refine xc_seq ?_
        refine xc_region ?_
        refine xo_rd (rd_eql rfl rfl) rfl ?_
        refine xo_rd (rd_assign rfl) rfl ?_
        refine xo_nil ?_
        refine xq_seq ?_
        refine xc_condf rfl ?_
        refine xc_seq ?_
        refine xc_region ?_
        refine xo_rd (rd_eql rfl rfl) rfl ?_
        refine xo_rd (rd_assign rfl) rfl ?_
        refine xo_nil ?_
        refine xq_seq ?_
        refine xc_condf rfl ?_
        refine xc_seq ?_
        refine xc_region ?_
        refine xo_rd (rd_eql rfl rfl) rfl ?_
        refine xo_rd (rd_assign rfl) rfl ?_
        refine xo_nil ?_
        refine xq_seq ?_
        refine xc_condf rfl ?_
        refine xc_seq ?_
        refine xc_seq ?_
        refine xc_region ?_
        refine xo_rd (rd_eql rfl rfl) rfl ?_
        refine xo_rd (rd_assign rfl) rfl ?_
        refine xo_nil ?_
        refine xq_seq ?_
        refine xc_condf rfl ?_
        refine xc_region ?_
        refine xo_rd (rd_eql rfl rfl) rfl ?_
        refine xo_rd (rd_assign rfl) rfl ?_
        refine xo_nil ?_
        refine xq_seq ?_
        refine xc_condf rfl ?_
        refine xc_seq ?_
        refine xc_region ?_
        refine xo_rd (rd_eql rfl rfl) rfl ?_
        refine xo_rd (rd_assign rfl) rfl ?_
        refine xo_nil ?_
        refine xq_seq ?_
        refine xc_condt rfl ?_
        refine xc_seq ?_
        refine xc_region ?_
        refine xo_rd (rd_move rfl) rfl ?_
        refine xo_rd (rd_fieldAddr rfl) rfl ?_
        refine xo_rd (rd_load1 rfl (Cl.o0 rfl)) rfl ?_
        refine xo_rd (rd_move rfl) rfl ?_
        refine xo_rd (rd_fieldAddr rfl) rfl ?_
        refine xo_rd (rd_load1 rfl (Cl.o0 rfl)) rfl ?_
        refine xo_ef rfl (ef_call rfl (XF.mono ((xf_HdR (L := [_] ++ L) r x hx a.id now a.fl).perm (x.front r [_] L)) ?_))
        rintro v L' ⟨rfl, y, hy, hya, rfl⟩
        refine xo_ef rfl (ef_call rfl (XF.mono (xf_answer _) ?_))
        rintro v L' ⟨rfl, rfl⟩
        refine xo_rd (rd_assign rfl) rfl ?_
        refine xo_nil ?_
        refine xq_seq ?_
        refine xc_ret ?_
        refine xq_block_ret ?_
        refine xq_then_ret ?_
      exact xq_sub (y.blks_sub r [_] L) (xq_ret1 (.inl rfl) Tryz.results10 rfl ⟨congrArg (Value.int .i64) he, y, hy, hya.trans hz, rfl⟩)
    · skip
      focus
        refine xc_seq ?_
        refine xc_region ?_
        refine xo_ef rfl (ef_box rfl fun r4 => ?_)
        refine xo_rd (rd_assign rfl) rfl ?_
        refine xo_nil ?_
        refine xq_seq ?_
        refine xc_seq ?_
        refine xc_seq ?_
        refine xc_region ?_
        refine xo_rd (rd_fieldAddr rfl) rfl ?_
        refine xo_rd (rd_load1 rfl (Cl.o0 rfl)) rfl ?_
        refine xo_ef rfl (ef_call rfl (XF.mono (hpk _) ?_))
        rintro v L' ⟨rfl, rfl⟩
        refine xo_nil ?_
        refine xq_seq ?_
        refine xc_block ?_
        refine xc_seq ?_
        refine xc_region ?_
        refine xo_rd (rd_eql rfl rfl) rfl ?_
        refine xo_rd (rd_assign rfl) rfl ?_
        refine xo_nil ?_
        refine xq_seq ?_
        refine xc_condf rfl ?_
        refine xc_seq ?_
        refine xc_region ?_
        refine xo_rd (rd_eql rfl rfl) rfl ?_
        refine xo_rd (rd_assign rfl) rfl ?_
        refine xo_nil ?_
        refine xq_seq ?_
        refine xc_condf rfl ?_
        refine xc_seq ?_
        refine xc_region ?_
        refine xo_rd (rd_eql rfl rfl) rfl ?_
        refine xo_rd (rd_assign rfl) rfl ?_
        refine xo_nil ?_
        refine xq_seq ?_
        refine xc_condf rfl ?_
        refine xc_seq ?_
        refine xc_region ?_
        refine xo_rd (rd_eql rfl rfl) rfl ?_
        refine xo_rd (rd_assign rfl) rfl ?_
        refine xo_nil ?_
        refine xq_seq ?_
        refine xc_condf rfl ?_
        refine xc_seq ?_
        refine xc_region ?_
        refine xo_rd (rd_eql rfl rfl) rfl ?_
        refine xo_rd (rd_assign rfl) rfl ?_
        refine xo_nil ?_
        refine xq_seq ?_
        refine xc_condf rfl ?_
        refine xc_seq ?_
        refine xc_seq ?_
        refine xc_region ?_
        refine xo_rd (rd_eql rfl rfl) rfl ?_
        refine xo_rd (rd_assign rfl) rfl ?_
        refine xo_nil ?_
        refine xq_seq ?_
        refine xc_condf rfl ?_
        refine xc_region ?_
        refine xo_rd (rd_eql rfl rfl) rfl ?_
        refine xo_rd (rd_assign rfl) rfl ?_
        refine xo_nil ?_
        refine xq_seq ?_
        refine xc_condf rfl ?_
        refine xc_seq ?_
        refine xc_region ?_
        refine xo_rd (rd_eql rfl rfl) rfl ?_
        refine xo_rd (rd_assign rfl) rfl ?_
        refine xo_nil ?_
        refine xq_seq ?_
        refine xc_condf rfl ?_
        refine xc_skip ?_
        refine xq_block ?_
        refine xq_seq ?_
        refine xc_seq ?_
        refine xc_region ?_
        refine xo_rd (rd_move rfl) rfl ?_
        refine xo_rd (rd_move rfl) rfl ?_
        refine xo_ef rfl (ef_call rfl (XF.mono ((xf_TkR (L := [_] ++ L) r x hx now hg h0 hn).perm (x.front r [_] L)) ?_))
        rintro v L' ⟨rfl, y, hy, hya, rfl⟩
        refine xo_ef rfl (ef_call rfl (XF.mono (xf_answer _) ?_))
        rintro v L' ⟨rfl, rfl⟩
        refine xo_rd (rd_assign rfl) rfl ?_
        refine xo_nil ?_
        refine xq_seq ?_
        refine xc_ret ?_
      exact xq_sub (y.blks_sub r [_] L) (xq_ret1 (.inl rfl) Tryz.results10 rfl ⟨congrArg (Value.int .i64) he, y, hy, hya.trans hz, rfl⟩)
end Go.Proofs.YtmdeajdaeihniaaGreat.X
/-
  Chapter 25: the reference's room, in memory; what it leaves out, who is far, what somebody watches: walks of my own.
-/
namespace Go.Proofs.YtmdeajdaeihniaaGreat.X
open Go Go.RowKit
set_option linter.unusedVariables false
set_option linter.unusedSimpArgs false
/-- What somebody watches, in the reference's memory. -/
structure Wx where
  a : Wa
  p : Option Addr
  c : Nat
def xwE (id : Int) (ct : Bool) (p : Option Addr) (n c : Nat) : List Value := [.int .i64 id, .bool ct, .slice p n c]
def Wx.enc (w : Wx) : List Value := xwE w.a.id w.a.ct w.p w.a.cs.length w.c
theorem Wx.len (w : Wx) : w.enc.length = 3 := rfl
theorem Wx.one (ws : List Wx) : (ws.flatMap Wx.enc).all (·.oneCell') = true := by
  rw [List.all_flatMap, List.all_eq_true]; intro g _; rfl
structure Rr where
  most : Int
  ms : List Mb
  rp : Option Addr
  rc : Nat
  f : Rf
  ws : List Wx
  xp : Option Addr
  xc : Nat
def roE (most : Int) (rp : Option Addr) (rn rc : Nat) : List Value := [.int .i64 most, .slice rp rn rc]
def rrE (ro fl : List Value) (xp : Option Addr) (xn xc : Nat) : List Value := ro ++ fl ++ [.slice xp xn xc]
def Rr.enc (x : Rr) : List Value := rrE (roE x.most x.rp x.ms.length x.rc) x.f.enc x.xp x.ws.length x.xc
theorem Rr.len (x : Rr) : x.enc.length = 14 := rfl
def Rr.ra (x : Rr) : Ra := ⟨x.most, x.ms, x.f.a, x.ws.map Wx.a⟩
structure Rr.At (W : World) (L : List Blk) (x : Rr) : Prop where
  r : Rs W L x.rp (x.ms.flatMap Mb.enc)
  f : x.f.At W L
  xs : Rs W L x.xp (x.ws.flatMap Wx.enc)
  w : ∀ u, u ∈ x.ws → Rs W L u.p (ints .i64 u.a.cs)
  ml : x.ms.length ≤ 1000
  xl : x.ws.length ≤ 1000
  cl : ∀ u, u ∈ x.ws → u.a.cs.length ≤ 1000
theorem Rr.At.mono {W : World} {L L' : List Blk} {x : Rr} (h : x.At W L) (hm : ∀ z, z ∈ L → z ∈ L') : x.At W L' := ⟨h.r.mono hm, h.f.mono hm, h.xs.mono hm, fun u hu => (h.w u hu).mono hm, h.ml, h.xl, h.cl⟩
theorem xf_rfar {W : World} {L : List Blk} (id : Int) : XF Tryz.prog W 72 #[.int .i64 id] L (fun v L' => v = .bool (farI id) ∧ L' = L) := by
  unfold farI
  refine xf_enter (args := [_]) Tryz.func72 rfl Tryz.ntmps72 rfl ?_
  focus
    refine xc_seq ?_
    refine xc_region ?_
    refine xo_rd (rd_assign rfl) rfl ?_
    refine xo_nil ?_
    refine xq_seq ?_
    refine xc_seq ?_
    refine xc_region ?_
    refine xo_rd (rd_move rfl) rfl ?_
    refine xo_rd (rd_lss rfl rfl) rfl ?_
    refine xo_rd (rd_move rfl) rfl ?_
    refine xo_dec 5 rfl (fun hz1 => ?_) (fun hz1 => ?_)
    refine xo_gskip rfl rfl rfl rfl ?_
    refine xo_gskip rfl rfl rfl rfl ?_
    refine xo_rd (rd_pickt rfl rfl) rfl ?_
    refine xo_rd (rd_assign rfl) rfl ?_
    refine xo_nil ?_
    refine xq_seq ?_
    refine xc_ret ?_
    rotate_left
    refine xo_grd rfl rfl (rd_move rfl) rfl ?_
    refine xo_grd rfl rfl (rd_gtr rfl rfl) rfl ?_
    refine xo_rd (rd_pickf rfl rfl) rfl ?_
    refine xo_rd (rd_assign rfl) rfl ?_
    refine xo_nil ?_
    refine xq_seq ?_
    refine xc_ret ?_
    rotate_left
  · exact xq_ret1 (.inl rfl) Tryz.results72 rfl ⟨by rw [decide_eq_true hz1]; rfl, rfl⟩
  · exact xq_ret1 (.inl rfl) Tryz.results72 rfl ⟨by rw [decide_eq_false hz1]; rfl, rfl⟩
theorem xf_rwithout {W : World} {L : List Blk} (p : Option Addr) (n c : Nat) (l : List Int) (hn : l.length = n) (hr : Rs W L p (ints .i64 l)) (hm : n ≤ 1000000) (k : Int) : XF Tryz.prog W 71 #[.slice p n c, .int .i64 k] L (fun v L' => ∃ q kk lb, v = .slice q (l.filter fun x => !decide (x = k)).length kk ∧ SlQ 1 3 (.slice q (l.filter fun x => !decide (x = k)).length kk) (l.filter fun x => !decide (x = k)).length (ints .i64 (l.filter fun x => !decide (x = k))) lb ∧ L' = lb ++ L) := by
  refine xf_enter (args := [_, _]) Tryz.func71 rfl Tryz.ntmps71 rfl ?_
  focus
    refine xc_seq ?_
    refine xc_region ?_
    refine xo_rd (rd_assign rfl) rfl ?_
    refine xo_nil ?_
    refine xq_seq ?_
    refine xc_seq ?_
    refine xc_region ?_
    refine xo_rd (rd_assign rfl) rfl ?_
    refine xo_nil ?_
    refine xq_seq ?_
    refine xc_seq ?_
    refine xc_seq ?_
    refine xc_region ?_
    refine xo_rd (rd_assign rfl) rfl ?_
    refine xo_nil ?_
    refine xq_seq ?_
    refine xc_block ?_
  refine xc_loopI (ι := Nat × (Option Addr × Nat × List Blk)) (fun s => s.1 ≤ n ∧ SlQ 1 3 (.slice s.2.1 ((l.take s.1).filter fun x => !decide (x = k)).length s.2.2.1) ((l.take s.1).filter fun x => !decide (x = k)).length (ints .i64 ((l.take s.1).filter fun x => !decide (x = k))) s.2.2.2) (fun s => n - s.1) (fun s => s.2.2.2 ++ L) (fun s => [(0, .slice p n c), (1, .int .i64 k), (5, .slice s.2.1 ((l.take s.1).filter fun x => !decide (x = k)).length s.2.2.1), (6, .int .i64 s.1)]) (0, none, 0, []) ⟨Nat.zero_le _, by dsimp only; rw [List.take_zero]; exact SlQ.nil⟩ rfl (by dsimp only; rw [List.take_zero]; exact (by repeat (first | exact keep_nil | refine keep_cons rfl ?_))) ?_
  rintro ⟨i, q, kk, lb⟩ ⟨hi, hsl⟩
  dsimp only at hi hsl ⊢
  by_cases hin : i < n
  · have hrs : Rs W (lb ++ L) p (ints .i64 l) := hr.mono fun z hz => List.mem_append_right _ hz
    obtain ⟨b, o, hpb, hc⟩ := hrs.int (i := i) (by omega)
    subst hpb
    have htk : l.take (i + 1) = l.take i ++ [l[i]] := by rw [List.take_add_one, List.getElem?_eq_getElem (by omega)]; rfl
    have hll : ((l.take i).filter fun x => !decide (x = k)).length ≤ i := Nat.le_trans (List.length_filter_le _ _) (by rw [List.length_take]; omega)
    obtain ⟨x, hx⟩ : ∃ x, l[i] = x := ⟨_, rfl⟩
    rw [hx] at hc htk
    by_cases hik : x = k
    · have he : ((l.take (i + 1)).filter fun x => !decide (x = k)) = (l.take i).filter fun x => !decide (x = k) := by
        rw [htk, List.filter_append, List.filter_cons_of_neg (by simp [hik]), List.filter_nil, List.append_nil]
      focus
        refine xc_seq ?_
        refine xc_seq ?_
        refine xc_region ?_
        refine xo_rd (rd_move rfl) rfl ?_
        refine xo_rd (rd_move rfl) rfl ?_
        refine xo_rd (rd_len rfl) rfl ?_
        refine xo_rd (rd_lss rfl rfl) rfl ?_
        refine xo_nil ?_
        refine xq_seq ?_
        refine xc_dec rfl (fun h1 => ?_) (fun h1 => (by exfalso; omega))
        refine xc_skip ?_
        refine xq_seq ?_
        refine xc_seq ?_
        refine xc_block ?_
        refine xc_seq ?_
        refine xc_region ?_
        refine xo_rd (rd_move rfl) rfl ?_
        refine xo_rd (rd_move rfl) rfl ?_
        refine xo_rd (rd_indexAddr rfl rfl (by omega) (by omega)) rfl ?_
        refine xo_rd (rd_load1 rfl hc) rfl ?_
        refine xo_rd (rd_move rfl) rfl ?_
        refine xo_rd (rd_neq rfl rfl) rfl ?_
        refine xo_nil ?_
        refine xq_seq ?_
        refine xc_ndec rfl (fun h2 => (by exfalso; omega)) (fun h2 => ?_)
        refine xc_skip ?_
        refine xq_block ?_
        refine xq_seq ?_
        refine xc_region ?_
        refine xo_rd (rd_move rfl) rfl ?_
        refine xo_rd (rd_addn rfl rfl (by omega) (by omega)) rfl ?_
        refine xo_rd (rd_assign rfl) rfl ?_
        refine xo_nil ?_
      exact xq_roundI ((i + 1, q, kk, lb) : Nat × (Option Addr × Nat × List Blk)) ⟨by dsimp only; omega, by dsimp only; rw [he]; exact hsl⟩ (by dsimp only; omega) rfl (by dsimp only; rw [he]; exact (by repeat (first | exact keep_nil | refine keep_cons rfl ?_)))
    · have he : ((l.take (i + 1)).filter fun x => !decide (x = k)) = ((l.take i).filter fun x => !decide (x = k)) ++ [x] := by
        rw [htk, List.filter_append, List.filter_cons_of_pos (by simp [hik]), List.filter_nil]
      focus
        refine xc_seq ?_
        refine xc_seq ?_
        refine xc_region ?_
        refine xo_rd (rd_move rfl) rfl ?_
        refine xo_rd (rd_move rfl) rfl ?_
        refine xo_rd (rd_len rfl) rfl ?_
        refine xo_rd (rd_lss rfl rfl) rfl ?_
        refine xo_nil ?_
        refine xq_seq ?_
        refine xc_dec rfl (fun h1 => ?_) (fun h1 => (by exfalso; omega))
        refine xc_skip ?_
        refine xq_seq ?_
        refine xc_seq ?_
        refine xc_block ?_
        refine xc_seq ?_
        refine xc_region ?_
        refine xo_rd (rd_move rfl) rfl ?_
        refine xo_rd (rd_move rfl) rfl ?_
        refine xo_rd (rd_indexAddr rfl rfl (by omega) (by omega)) rfl ?_
        refine xo_rd (rd_load1 rfl hc) rfl ?_
        refine xo_rd (rd_move rfl) rfl ?_
        refine xo_rd (rd_neq rfl rfl) rfl ?_
        refine xo_nil ?_
        refine xq_seq ?_
        refine xc_ndec rfl (fun h2 => ?_) (fun h2 => (by exfalso; omega))
        refine xc_region ?_
        refine xo_rd (rd_move rfl) rfl ?_
        refine xo_rd (rd_move rfl) rfl ?_
        refine xo_rd (rd_move rfl) rfl ?_
        refine xo_rd (rd_indexAddr rfl rfl (by omega) (by omega)) rfl ?_
        refine xo_rd (rd_load1 rfl hc) rfl ?_
        refine xo_ef rfl (ef_buildL (T := 50) (len := 1) (s := 1) (cells := (ints .i64 [x]).toArray) rfl (by decide) (by decide) (by kernel_rfl) fun r21 => ?_)
        refine xo_ef rfl (ef_appendQS [_] L lb (news := ints .i64 [x]) rfl rfl hsl rfl rs_cons rfl rfl (by decide) (by omega) (by omega) fun q2 kk2 lb2 hO2 hk2 => ?_)
        refine xo_rd (rd_assign rfl) rfl ?_
        refine xo_nil ?_
        refine xq_block ?_
        refine xq_seq ?_
        refine xc_region ?_
        refine xo_rd (rd_move rfl) rfl ?_
        refine xo_rd (rd_addn rfl rfl (by omega) (by omega)) rfl ?_
        refine xo_rd (rd_assign rfl) rfl ?_
        refine xo_nil ?_
      exact xq_sub (List.sublist_cons_self _ _) (xq_roundI ((i + 1, q2, kk2, lb2) : Nat × (Option Addr × Nat × List Blk)) ⟨by dsimp only; omega, by dsimp only; rw [he, List.length_append, ints_app]; exact hO2⟩ (by dsimp only; omega) rfl (by dsimp only; rw [he, List.length_append]; exact (by repeat (first | exact keep_nil | refine keep_cons rfl ?_))))
  · rw [List.take_of_length_le (by omega)] at hsl
    focus
      refine xc_seq ?_
      refine xc_seq ?_
      refine xc_region ?_
      refine xo_rd (rd_move rfl) rfl ?_
      refine xo_rd (rd_move rfl) rfl ?_
      refine xo_rd (rd_len rfl) rfl ?_
      refine xo_rd (rd_lss rfl rfl) rfl ?_
      refine xo_nil ?_
      refine xq_seq ?_
      refine xc_dec rfl (fun h1 => (by exfalso; omega)) (fun h1 => ?_)
      refine xc_exit ?_
      refine xq_then_exit ?_
      refine xq_then_exit ?_
      refine xq_block_hit ?_
      refine xq_seq ?_
      refine xc_seq ?_
      refine xc_region ?_
      refine xo_rd (rd_move rfl) rfl ?_
      refine xo_rd (rd_assign rfl) rfl ?_
      refine xo_nil ?_
      refine xq_seq ?_
      refine xc_ret ?_
    exact xq_ret1 (.inl rfl) Tryz.results71 rfl ⟨q, kk, lb, by rw [List.take_of_length_le (by omega)], hsl, rfl⟩
def wxF (ws : List Wx) (id : Int) : Option Wx := ws.find? fun w => w.a.id == id
theorem wxF_at {ws : List Wx} {id : Int} {i : Nat} (hi : i < ws.length) (he : ws[i].a.id = id) (hno : ∀ j (h : j < ws.length), j < i → ws[j].a.id ≠ id) : wxF ws id = some ws[i] := by
  unfold wxF
  rw [List.find?_eq_some_iff_getElem]
  exact ⟨by simp [he], i, hi, rfl, fun j hj => by simpa using hno j (by omega) hj⟩
theorem wxF_no {ws : List Wx} {id : Int} (hno : ∀ j (h : j < ws.length), ws[j].a.id ≠ id) : wxF ws id = none := by
  unfold wxF
  rw [List.find?_eq_none]
  intro x hx
  obtain ⟨j, hj, rfl⟩ := List.getElem_of_mem hx
  simpa using hno j hj
def wx0 : Wx := ⟨⟨0, false, []⟩, none, 0⟩
theorem xf_rOf {W : World} {L : List Blk} (x : Rr) (hx : x.At W L) (id : Int) : XF Tryz.prog W 44 #[.agg x.enc.toArray, .int .i64 id] L (fun v L' => v = .tuple #[.agg ((wxF x.ws id).getD wx0).enc.toArray, .bool (wxF x.ws id).isSome] ∧ L' = L) := by
  have hxl := hx.xl
  refine xf_enter (args := [_, _]) Tryz.func44 rfl Tryz.ntmps44 rfl ?_
  focus
    refine xc_seq ?_
    refine xc_region ?_
    refine xo_ef rfl (ef_box rfl fun r2 => ?_)
    refine xo_ef rfl (ef_alloc fun r4 => ?_)
    refine xo_rd (rd_assign rfl) rfl ?_
    refine xo_nil ?_
    refine xq_seq ?_
    refine xc_seq ?_
    refine xc_seq ?_
    refine xc_region ?_
    refine xo_rd (rd_assign rfl) rfl ?_
    refine xo_nil ?_
    refine xq_seq ?_
    refine xc_block ?_
  refine xc_loopK (ι := Nat) (fun i => i ≤ x.ws.length ∧ ∀ j (h : j < x.ws.length), j < i → x.ws[j].a.id ≠ id) (fun i => x.ws.length - i) (fun i => [(1, .int .i64 id), (2, .pointer (some ⟨r2, 0, none⟩)), (4, .pointer (some ⟨r4, 0, none⟩)), (6, .int .i64 i)]) 0 ⟨Nat.zero_le _, fun j h hj => absurd hj (Nat.not_lt_zero _)⟩ (by repeat (first | exact keep_nil | refine keep_cons rfl ?_)) ?_
  rintro i ⟨hi, hno⟩
  by_cases hin : i < x.ws.length
  · obtain ⟨b, o, hp, hc⟩ := hx.xs.rows Wx.len (by decide) (by omega)
    have hci := hc i hin
    obtain ⟨e, he⟩ : ∃ e, x.ws[i] = e := ⟨_, rfl⟩
    rw [he] at hci
    have hci2 : ∀ L', (∀ z, z ∈ L → z ∈ L') → ∀ j u, e.enc[j]? = some u → Cl W L' b (o + (i : Int).toNat * 3 + j) u := fun L' h j u hj => (hci j u hj).mono h
    focus
      refine xc_seq ?_
      refine xc_seq ?_
      refine xc_region ?_
      refine xo_rd (rd_move rfl) rfl ?_
      refine xo_rd (rd_fieldAddr rfl) rfl ?_
      refine xo_rd (rd_cast (v' := .slice (some ⟨b, o, none⟩) x.ws.length x.xc) (rd_load1 rfl (Cl.own (i := 13) (List.mem_cons_of_mem _ List.mem_cons_self) rfl)) (by rw [← hp]; rfl)) rfl ?_
      refine xo_rd (rd_len rfl) rfl ?_
      refine xo_rd (rd_lss rfl rfl) rfl ?_
      refine xo_nil ?_
      refine xq_seq ?_
      refine xc_dec rfl (fun hz1 => ?_) (fun hz1 => (by exfalso; omega))
      refine xc_skip ?_
      refine xq_seq ?_
      refine xc_seq ?_
      refine xc_block ?_
      refine xc_seq ?_
      refine xc_region ?_
      refine xo_rd (rd_fieldAddr rfl) rfl ?_
      refine xo_rd (rd_cast (v' := .slice (some ⟨b, o, none⟩) x.ws.length x.xc) (rd_load1 rfl (Cl.own (i := 13) (List.mem_cons_of_mem _ List.mem_cons_self) rfl)) (by rw [← hp]; rfl)) rfl ?_
      refine xo_rd (rd_move rfl) rfl ?_
      refine xo_rd (rd_indexAddr rfl rfl (by omega) (by omega)) rfl ?_
      refine xo_rd (rd_fieldAddr rfl) rfl ?_
      refine xo_rd (rd_load1 rfl (hci2 _ (by intro z hz; simp [hz]) 0 _ rfl)) rfl ?_
      refine xo_rd (rd_move rfl) rfl ?_
      refine xo_rd (rd_eql rfl rfl) rfl ?_
      refine xo_nil ?_
      refine xq_seq ?_
      refine xc_dec rfl (fun hz2 => ?_) (fun hz2 => ?_)
      refine xc_seq ?_
      refine xc_region ?_
      refine xo_rd (rd_fieldAddr rfl) rfl ?_
      refine xo_rd (rd_cast (v' := .slice (some ⟨b, o, none⟩) x.ws.length x.xc) (rd_load1 rfl (Cl.own (i := 13) (List.mem_cons_of_mem _ List.mem_cons_self) rfl)) (by rw [← hp]; rfl)) rfl ?_
      refine xo_rd (rd_move rfl) rfl ?_
      refine xo_rd (rd_indexAddr rfl rfl (by omega) (by omega)) rfl ?_
      refine xo_rd (rd_loadA (vs := e.enc) rfl rfl (hci2 _ (by intro z hz; simp [hz]))) rfl ?_
      refine xo_ef rfl (ef_storeB [] _ rfl rfl (by first | rfl | assumption) rfl rfl rfl ?_)
      refine xo_rd (rd_assign rfl) rfl ?_
      refine xo_nil ?_
      refine xq_seq ?_
      refine xc_ret ?_
      refine xq_block_ret ?_
      refine xq_then_ret ?_
      refine xq_then_ret ?_
      refine xq_block_ret ?_
      refine xq_then_ret ?_
      rotate_left
      refine xc_skip ?_
      refine xq_block ?_
      refine xq_seq ?_
      refine xc_region ?_
      refine xo_rd (rd_move rfl) rfl ?_
      refine xo_rd (rd_addn rfl rfl (by omega) (by omega)) rfl ?_
      refine xo_rd (rd_assign rfl) rfl ?_
      refine xo_nil ?_
      rotate_left
    · have hf := wxF_at hin (by rw [he]; exact hz2) hno
      rw [hf, he]
      exact xq_retB2 (.inl rfl) Tryz.results44 rfl rfl Kn.o0 rfl (List.sublist_append_right [_, _] _) ⟨rfl, rfl⟩
    · refine xq_roundK rfl (i + 1) ⟨by omega, fun j h hj => ?_⟩ (by omega) (List.Sublist.refl _) (by repeat (first | exact keep_nil | refine keep_cons rfl ?_))
      by_cases hji : j = i
      · subst hji; rw [he]; exact hz2
      · exact hno j h (by omega)
  · have hf := wxF_no (ws := x.ws) (id := id) (fun j hj => hno j hj (by omega))
    rw [hf]
    focus
      refine xc_seq ?_
      refine xc_seq ?_
      refine xc_region ?_
      refine xo_rd (rd_move rfl) rfl ?_
      refine xo_rd (rd_fieldAddr rfl) rfl ?_
      refine xo_rd (rd_load1 rfl (Cl.o1 rfl)) rfl ?_
      refine xo_rd (rd_len rfl) rfl ?_
      refine xo_rd (rd_lss rfl rfl) rfl ?_
      refine xo_nil ?_
      refine xq_seq ?_
      refine xc_dec rfl (fun h1 => (by exfalso; omega)) (fun h1 => ?_)
      refine xc_exit ?_
      refine xq_then_exit ?_
      refine xq_then_exit ?_
      refine xq_block_hit ?_
      refine xq_seq ?_
      refine xc_seq ?_
      refine xc_region ?_
      refine xo_rd (rd_cast (v' := .agg wx0.enc.toArray) (rd_build (T := 105) rfl rfl rfl) (by kernel_rfl)) rfl ?_
      refine xo_ef rfl (ef_storeB [] _ rfl rfl (by first | rfl | assumption) rfl rfl rfl ?_)
      refine xo_rd (rd_assign rfl) rfl ?_
      refine xo_nil ?_
      refine xq_seq ?_
      refine xc_ret ?_
    exact xq_retB2 (.inl rfl) Tryz.results44 rfl rfl Kn.o0 rfl (List.sublist_append_right [_, _] _) ⟨rfl, rfl⟩
end Go.Proofs.YtmdeajdaeihniaaGreat.X
/-
  Chapter 25: the reference's room: its floor is asked: walks of my own.
-/
namespace Go.Proofs.YtmdeajdaeihniaaGreat.X
open Go Go.RowKit
set_option linter.unusedVariables false
set_option linter.unusedSimpArgs false
theorem Rr.fl_at {x : Rr} {j : Nat} {u : Value} (h : x.f.enc[j]? = some u) : x.enc[2 + j]? = some u := by
  have hj : j < 11 := (List.getElem?_eq_some_iff.1 h).1
  unfold Rr.enc rrE
  rw [List.getElem?_append_left (by rw [List.length_append, Rf.len]; show 2 + j < 2 + 11; omega), List.getElem?_append_right (by show 2 ≤ 2 + j; omega)]
  show x.f.enc[2 + j - 2]? = _
  rw [Nat.add_sub_cancel_left]; exact h
theorem Rr.fl_cl {W : World} {L : List Blk} {x : Rr} {r : Nat} (h : (r, Obj.cells x.enc.toArray 45 (0, 0)) ∈ L) : ∀ (j : Nat) (u : Value), x.f.enc[j]? = some u → Cl W L r (0 + 2 + j) u := fun j u hj => Cl.own h (by rw [Nat.zero_add]; simpa using Rr.fl_at hj)
theorem Rr.At.setF {W : World} {L L' : List Blk} {x : Rr} {y : Rf} (h : x.At W L) (hm : ∀ z, z ∈ L → z ∈ L') (hy : y.At W L') : Rr.At W L' { x with f := y } := ⟨h.r.mono hm, hy, h.xs.mono hm, fun u hu => (h.w u hu).mono hm, h.ml, h.xl, h.cl⟩
theorem farI_not {id : Int} (h : farI id = false) : 0 ≤ id ∧ id ≤ 2147483647 := by
  unfold farI at h
  rw [Bool.or_eq_false_iff] at h
  have h1 := of_decide_eq_false h.1
  have h2 := of_decide_eq_false h.2
  omega
theorem xf_rfar' {W : World} {L : List Blk} (id : Int) (b : Bool) (hb : farI id = b) : XF Tryz.prog W 72 #[.int .i64 id] L (fun v L' => v = .bool b ∧ L' = L) := hb ▸ xf_rfar id
set_option maxHeartbeats 1600000 in
theorem xf_r2Request {W : World} {L : List Blk} (L0 : List Blk) (hs : ∀ z, z ∈ L0 → z ∈ L) (x : Rr) (hx : x.At W L0) (id now : Int) (hg : x.f.a.gs.length < 1000000) (hwl : x.f.a.wt.length < 1000000) : XF Tryz.prog W 31 #[.agg x.enc.toArray, .int .i64 id, .int .u64 now] L (fun v L' => ∃ y N, v = .tuple #[.agg (Rr.enc y).toArray, .int .i64 (rqE x.ra id)] ∧ y.ra = rqA x.ra id now ∧ y.At W (N ++ L0) ∧ L' = N ++ L) := by
  refine xf_enter (args := [_, _, _]) Tryz.func31 rfl Tryz.ntmps31 rfl ?_
  cases hb : farI id with
  | true =>
    have hE : rqE x.ra id = 130 := by unfold rqE; rw [if_pos hb]
    have hJ : rqA x.ra id now = x.ra := by unfold rqA; rw [if_pos hb]
    rw [hE, hJ]
    focus
      refine xc_seq ?_
      refine xc_region ?_
      refine xo_ef rfl (ef_box rfl fun r3 => ?_)
      refine xo_ef rfl (ef_alloc fun r6 => ?_)
      refine xo_rd (rd_assign rfl) rfl ?_
      refine xo_nil ?_
      refine xq_seq ?_
      refine xc_seq ?_
      refine xc_seq ?_
      refine xc_region ?_
      refine xo_rd (rd_move rfl) rfl ?_
      refine xo_ef rfl (ef_call rfl (XF.mono (xf_rfar' id true hb) ?_))
      rintro v L' ⟨rfl, rfl⟩
      refine xo_nil ?_
      refine xq_seq ?_
      refine xc_condt rfl ?_
      refine xc_seq ?_
      refine xc_region ?_
      refine xo_rd (rd_loadB rfl Kn.o1 (by rfl)) rfl ?_
      refine xo_ef rfl (ef_storeB [] _ rfl rfl (by first | rfl | assumption) rfl rfl rfl ?_)
      refine xo_rd (rd_assign rfl) rfl ?_
      refine xo_nil ?_
      refine xq_seq ?_
      refine xc_ret ?_
      refine xq_then_ret ?_
    exact xq_retB2 (.inl rfl) Tryz.results31 rfl rfl Kn.o0 rfl (List.sublist_append_right [_, _] _) ⟨x, [], rfl, rfl, hx, rfl⟩
  | false =>
    have hE : rqE x.ra id = reqE x.f.a id := by unfold rqE; rw [if_neg (by rw [hb]; decide)]; rfl
    have hJ : rqA x.ra id now = { x.ra with fl := reqF x.f.a id now } := by unfold rqA; rw [if_neg (by rw [hb]; decide)]; rfl
    rw [hE, hJ]
    have hr := farI_not hb
    have hrq := fun L' (h : ∀ z, z ∈ L → z ∈ L') => xf_rRequest (W := W) (L := L') L0 (fun z hz => h z (hs z hz)) x.f hx.f id now hg hwl
    focus
      refine xc_seq ?_
      refine xc_region ?_
      refine xo_ef rfl (ef_box rfl fun r3 => ?_)
      refine xo_ef rfl (ef_alloc fun r6 => ?_)
      refine xo_rd (rd_assign rfl) rfl ?_
      refine xo_nil ?_
      refine xq_seq ?_
      refine xc_seq ?_
      refine xc_seq ?_
      refine xc_region ?_
      refine xo_rd (rd_move rfl) rfl ?_
      refine xo_ef rfl (ef_call rfl (XF.mono (xf_rfar' id false hb) ?_))
      rintro v L' ⟨rfl, rfl⟩
      refine xo_nil ?_
      refine xq_seq ?_
      refine xc_condf rfl ?_
      refine xc_skip ?_
      refine xq_seq ?_
      refine xc_seq ?_
      refine xc_region ?_
      refine xo_rd (rd_fieldAddr rfl) rfl ?_
      refine xo_rd (rd_loadA (vs := x.f.enc) rfl rfl (Rr.fl_cl (by exact List.mem_cons_of_mem _ List.mem_cons_self))) rfl ?_
      refine xo_rd (rd_move rfl) rfl ?_
      refine xo_rd (rd_convn rfl (by omega) (by omega)) rfl ?_
      refine xo_rd (rd_move rfl) rfl ?_
      refine xo_ef rfl (ef_call rfl (XF.mono (hrq _ (by intro z hz; simp [hz])) ?_))
      rintro v L' ⟨y, N, rfl, hya, hyat, rfl⟩
      refine xo_seg [_, _] N _ ?_
      refine xo_rd (rd_move rfl) rfl ?_
      refine xo_rd (rd_extract rfl rfl) rfl ?_
      refine xo_rd (rd_extract rfl rfl) rfl ?_
      refine xo_ef rfl (ef_alloc fun r8 => ?_)
      refine xo_ef rfl (ef_storeB [] _ rfl rfl (by first | rfl | assumption) rfl rfl rfl ?_)
      refine xo_rd (rd_assign rfl) rfl ?_
      refine xo_nil ?_
      refine xq_seq ?_
      refine xc_seq ?_
      refine xc_region ?_
      refine xo_rd (rd_loadB rfl Kn.o0 (by rfl)) rfl ?_
      refine xo_rd (rd_fieldAddr rfl) rfl ?_
      refine xo_ef rfl (ef_storeW [_, _] _ 2 (vs := y.enc) (cs := x.enc) (ws := Rr.enc { x with f := y }) rfl rfl rfl rfl rfl (by rw [Rr.len, Rf.len]; decide) (by kernel_rfl) ?_)
      refine xo_nil ?_
      refine xq_seq ?_
      refine xc_seq ?_
      refine xc_region ?_
      refine xo_rd (rd_loadB rfl Kn.o2 (by rfl)) rfl ?_
      refine xo_rd (rd_move rfl) rfl ?_
      refine xo_ef rfl (ef_storeB [_] _ rfl rfl (by first | rfl | assumption) rfl rfl rfl ?_)
      refine xo_rd (rd_assign rfl) rfl ?_
      refine xo_nil ?_
      refine xq_seq ?_
      refine xc_ret ?_
    exact xq_retB2 (.inl rfl) Tryz.results31 rfl rfl Kn.o1 rfl (List.sublist_append_right [_, _, _] _) ⟨{ x with f := y }, N, rfl, by simp only [Rr.ra, hya], hx.setF (by intro z hz; simp [hz]) hyat, rfl⟩
set_option maxHeartbeats 1600000 in
theorem xf_r2Release {W : World} {L : List Blk} (L0 : List Blk) (hs : ∀ z, z ∈ L0 → z ∈ L) (x : Rr) (hx : x.At W L0) (id now : Int) (hg : x.f.a.gs.length < 1000000) : XF Tryz.prog W 32 #[.agg x.enc.toArray, .int .i64 id, .int .u64 now] L (fun v L' => ∃ y N, v = .tuple #[.agg (Rr.enc y).toArray, .int .i64 (rlE x.ra id)] ∧ y.ra = rlA x.ra id now ∧ y.At W (N ++ L0) ∧ L' = N ++ L) := by
  refine xf_enter (args := [_, _, _]) Tryz.func32 rfl Tryz.ntmps32 rfl ?_
  cases hb : farI id with
  | true =>
    have hE : rlE x.ra id = 130 := by unfold rlE; rw [if_pos hb]
    have hJ : rlA x.ra id now = x.ra := by unfold rlA; rw [if_pos hb]
    rw [hE, hJ]
    focus
      refine xc_seq ?_
      refine xc_region ?_
      refine xo_ef rfl (ef_box rfl fun r3 => ?_)
      refine xo_ef rfl (ef_alloc fun r6 => ?_)
      refine xo_rd (rd_assign rfl) rfl ?_
      refine xo_nil ?_
      refine xq_seq ?_
      refine xc_seq ?_
      refine xc_seq ?_
      refine xc_region ?_
      refine xo_rd (rd_move rfl) rfl ?_
      refine xo_ef rfl (ef_call rfl (XF.mono (xf_rfar' id true hb) ?_))
      rintro v L' ⟨rfl, rfl⟩
      refine xo_nil ?_
      refine xq_seq ?_
      refine xc_condt rfl ?_
      refine xc_seq ?_
      refine xc_region ?_
      refine xo_rd (rd_loadB rfl Kn.o1 (by rfl)) rfl ?_
      refine xo_ef rfl (ef_storeB [] _ rfl rfl (by first | rfl | assumption) rfl rfl rfl ?_)
      refine xo_rd (rd_assign rfl) rfl ?_
      refine xo_nil ?_
      refine xq_seq ?_
      refine xc_ret ?_
      refine xq_then_ret ?_
    exact xq_retB2 (.inl rfl) Tryz.results32 rfl rfl Kn.o0 rfl (List.sublist_append_right [_, _] _) ⟨x, [], rfl, rfl, hx, rfl⟩
  | false =>
    have hE : rlE x.ra id = relE x.f.a id := by unfold rlE; rw [if_neg (by rw [hb]; decide)]; rfl
    have hJ : rlA x.ra id now = { x.ra with fl := relF x.f.a id now } := by unfold rlA; rw [if_neg (by rw [hb]; decide)]; rfl
    rw [hE, hJ]
    have hr := farI_not hb
    have hrq := fun L' (h : ∀ z, z ∈ L → z ∈ L') => xf_rRelease (W := W) (L := L') L0 (fun z hz => h z (hs z hz)) x.f hx.f id now hg
    focus
      refine xc_seq ?_
      refine xc_region ?_
      refine xo_ef rfl (ef_box rfl fun r3 => ?_)
      refine xo_ef rfl (ef_alloc fun r6 => ?_)
      refine xo_rd (rd_assign rfl) rfl ?_
      refine xo_nil ?_
      refine xq_seq ?_
      refine xc_seq ?_
      refine xc_seq ?_
      refine xc_region ?_
      refine xo_rd (rd_move rfl) rfl ?_
      refine xo_ef rfl (ef_call rfl (XF.mono (xf_rfar' id false hb) ?_))
      rintro v L' ⟨rfl, rfl⟩
      refine xo_nil ?_
      refine xq_seq ?_
      refine xc_condf rfl ?_
      refine xc_skip ?_
      refine xq_seq ?_
      refine xc_seq ?_
      refine xc_region ?_
      refine xo_rd (rd_fieldAddr rfl) rfl ?_
      refine xo_rd (rd_loadA (vs := x.f.enc) rfl rfl (Rr.fl_cl (by exact List.mem_cons_of_mem _ List.mem_cons_self))) rfl ?_
      refine xo_rd (rd_move rfl) rfl ?_
      refine xo_rd (rd_convn rfl (by omega) (by omega)) rfl ?_
      refine xo_rd (rd_move rfl) rfl ?_
      refine xo_ef rfl (ef_call rfl (XF.mono (hrq _ (by intro z hz; simp [hz])) ?_))
      rintro v L' ⟨y, N, rfl, hya, hyat, rfl⟩
      refine xo_seg [_, _] N _ ?_
      refine xo_rd (rd_move rfl) rfl ?_
      refine xo_rd (rd_extract rfl rfl) rfl ?_
      refine xo_rd (rd_extract rfl rfl) rfl ?_
      refine xo_ef rfl (ef_alloc fun r8 => ?_)
      refine xo_ef rfl (ef_storeB [] _ rfl rfl (by first | rfl | assumption) rfl rfl rfl ?_)
      refine xo_rd (rd_assign rfl) rfl ?_
      refine xo_nil ?_
      refine xq_seq ?_
      refine xc_seq ?_
      refine xc_region ?_
      refine xo_rd (rd_loadB rfl Kn.o0 (by rfl)) rfl ?_
      refine xo_rd (rd_fieldAddr rfl) rfl ?_
      refine xo_ef rfl (ef_storeW [_, _] _ 2 (vs := y.enc) (cs := x.enc) (ws := Rr.enc { x with f := y }) rfl rfl rfl rfl rfl (by rw [Rr.len, Rf.len]; decide) (by kernel_rfl) ?_)
      refine xo_nil ?_
      refine xq_seq ?_
      refine xc_seq ?_
      refine xc_region ?_
      refine xo_rd (rd_loadB rfl Kn.o2 (by rfl)) rfl ?_
      refine xo_rd (rd_move rfl) rfl ?_
      refine xo_ef rfl (ef_storeB [_] _ rfl rfl (by first | rfl | assumption) rfl rfl rfl ?_)
      refine xo_rd (rd_assign rfl) rfl ?_
      refine xo_nil ?_
      refine xq_seq ?_
      refine xc_ret ?_
    exact xq_retB2 (.inl rfl) Tryz.results32 rfl rfl Kn.o1 rfl (List.sublist_append_right [_, _, _] _) ⟨{ x with f := y }, N, rfl, by simp only [Rr.ra, hya], hx.setF (by intro z hz; simp [hz]) hyat, rfl⟩
set_option maxHeartbeats 1600000 in
theorem xf_r2Revoke {W : World} {L : List Blk} (L0 : List Blk) (hs : ∀ z, z ∈ L0 → z ∈ L) (x : Rr) (hx : x.At W L0) (bw id now : Int) (hg : x.f.a.gs.length < 1000000) : XF Tryz.prog W 33 #[.agg x.enc.toArray, .int .i64 bw, .int .i64 id, .int .u64 now] L (fun v L' => ∃ y N, v = .tuple #[.agg (Rr.enc y).toArray, .int .i64 (rvE x.ra bw id)] ∧ y.ra = rvA x.ra bw id now ∧ y.At W (N ++ L0) ∧ L' = N ++ L) := by
  refine xf_enter (args := [_, _, _, _]) Tryz.func33 rfl Tryz.ntmps33 rfl ?_
  by_cases hb1 : farI bw = true
  · have hE : rvE x.ra bw id = 130 := by unfold rvE; rw [if_pos (by rw [hb1]; rfl)]
    have hJ : rvA x.ra bw id now = x.ra := by unfold rvA; rw [if_pos (by rw [hb1]; rfl)]
    rw [hE, hJ]
    focus
      refine xc_seq ?_
      refine xc_region ?_
      refine xo_ef rfl (ef_box rfl fun r4 => ?_)
      refine xo_ef rfl (ef_alloc fun r8 => ?_)
      refine xo_rd (rd_assign rfl) rfl ?_
      refine xo_nil ?_
      refine xq_seq ?_
      refine xc_seq ?_
      refine xc_seq ?_
      refine xc_region ?_
      refine xo_rd (rd_move rfl) rfl ?_
      refine xo_ef rfl (ef_call rfl (XF.mono (xf_rfar' bw true hb1) ?_))
      rintro v L' ⟨rfl, rfl⟩
      refine xo_rd (rd_move rfl) rfl ?_
      refine xo_gskip rfl rfl rfl rfl ?_
      refine xo_gskip rfl rfl rfl rfl ?_
      refine xo_rd (rd_pickt rfl rfl) rfl ?_
      refine xo_nil ?_
      refine xq_seq ?_
      refine xc_condt rfl ?_
      refine xc_seq ?_
      refine xc_region ?_
      refine xo_rd (rd_loadB rfl Kn.o1 (by rfl)) rfl ?_
      refine xo_ef rfl (ef_storeB [] _ rfl rfl (by first | rfl | assumption) rfl rfl rfl ?_)
      refine xo_rd (rd_assign rfl) rfl ?_
      refine xo_nil ?_
      refine xq_seq ?_
      refine xc_ret ?_
      refine xq_then_ret ?_
    exact xq_retB2 (.inl rfl) Tryz.results33 rfl rfl Kn.o0 rfl (List.sublist_append_right [_, _] _) ⟨x, [], rfl, rfl, hx, rfl⟩
  have hb1 : farI bw = false := by simpa using hb1
  have hr1 := farI_not hb1
  cases hb : farI id with
  | true =>
    have hE : rvE x.ra bw id = 130 := by unfold rvE; rw [if_pos (by rw [hb, Bool.or_true])]
    have hJ : rvA x.ra bw id now = x.ra := by unfold rvA; rw [if_pos (by rw [hb, Bool.or_true])]
    rw [hE, hJ]
    focus
      refine xc_seq ?_
      refine xc_region ?_
      refine xo_ef rfl (ef_box rfl fun r4 => ?_)
      refine xo_ef rfl (ef_alloc fun r8 => ?_)
      refine xo_rd (rd_assign rfl) rfl ?_
      refine xo_nil ?_
      refine xq_seq ?_
      refine xc_seq ?_
      refine xc_seq ?_
      refine xc_region ?_
      refine xo_rd (rd_move rfl) rfl ?_
      refine xo_ef rfl (ef_call rfl (XF.mono (xf_rfar' bw false hb1) ?_))
      rintro v L' ⟨rfl, rfl⟩
      refine xo_rd (rd_move rfl) rfl ?_
      refine xo_grd rfl rfl (rd_move rfl) rfl ?_
      refine xo_gef rfl rfl rfl (ef_call rfl (XF.mono (xf_rfar' id true hb) ?_))
      rintro v L' ⟨rfl, rfl⟩
      refine xo_rd (rd_pickf rfl rfl) rfl ?_
      refine xo_nil ?_
      refine xq_seq ?_
      refine xc_condt rfl ?_
      refine xc_seq ?_
      refine xc_region ?_
      refine xo_rd (rd_loadB rfl Kn.o1 (by rfl)) rfl ?_
      refine xo_ef rfl (ef_storeB [] _ rfl rfl (by first | rfl | assumption) rfl rfl rfl ?_)
      refine xo_rd (rd_assign rfl) rfl ?_
      refine xo_nil ?_
      refine xq_seq ?_
      refine xc_ret ?_
      refine xq_then_ret ?_
    exact xq_retB2 (.inl rfl) Tryz.results33 rfl rfl Kn.o0 rfl (List.sublist_append_right [_, _] _) ⟨x, [], rfl, rfl, hx, rfl⟩
  | false =>
    have hE : rvE x.ra bw id = revE x.f.a bw id := by unfold rvE; rw [if_neg (by rw [hb, hb1]; decide)]; rfl
    have hJ : rvA x.ra bw id now = { x.ra with fl := revF x.f.a bw id now } := by unfold rvA; rw [if_neg (by rw [hb, hb1]; decide)]; rfl
    rw [hE, hJ]
    have hr := farI_not hb
    have hrq := fun L' (h : ∀ z, z ∈ L → z ∈ L') => xf_rRevoke (W := W) (L := L') L0 (fun z hz => h z (hs z hz)) x.f hx.f bw id now hg
    focus
      refine xc_seq ?_
      refine xc_region ?_
      refine xo_ef rfl (ef_box rfl fun r4 => ?_)
      refine xo_ef rfl (ef_alloc fun r8 => ?_)
      refine xo_rd (rd_assign rfl) rfl ?_
      refine xo_nil ?_
      refine xq_seq ?_
      refine xc_seq ?_
      refine xc_seq ?_
      refine xc_region ?_
      refine xo_rd (rd_move rfl) rfl ?_
      refine xo_ef rfl (ef_call rfl (XF.mono (xf_rfar' bw false hb1) ?_))
      rintro v L' ⟨rfl, rfl⟩
      refine xo_rd (rd_move rfl) rfl ?_
      refine xo_grd rfl rfl (rd_move rfl) rfl ?_
      refine xo_gef rfl rfl rfl (ef_call rfl (XF.mono (xf_rfar' id false hb) ?_))
      rintro v L' ⟨rfl, rfl⟩
      refine xo_rd (rd_pickf rfl rfl) rfl ?_
      refine xo_nil ?_
      refine xq_seq ?_
      refine xc_condf rfl ?_
      refine xc_skip ?_
      refine xq_seq ?_
      refine xc_seq ?_
      refine xc_region ?_
      refine xo_rd (rd_fieldAddr rfl) rfl ?_
      refine xo_rd (rd_loadA (vs := x.f.enc) rfl rfl (Rr.fl_cl (by exact List.mem_cons_of_mem _ List.mem_cons_self))) rfl ?_
      refine xo_rd (rd_move rfl) rfl ?_
      refine xo_rd (rd_convn rfl (by omega) (by omega)) rfl ?_
      refine xo_rd (rd_move rfl) rfl ?_
      refine xo_rd (rd_convn rfl (by omega) (by omega)) rfl ?_
      refine xo_rd (rd_move rfl) rfl ?_
      refine xo_ef rfl (ef_call rfl (XF.mono (hrq _ (by intro z hz; simp [hz])) ?_))
      rintro v L' ⟨y, N, rfl, hya, hyat, rfl⟩
      refine xo_seg [_, _] N _ ?_
      refine xo_rd (rd_move rfl) rfl ?_
      refine xo_rd (rd_extract rfl rfl) rfl ?_
      refine xo_rd (rd_extract rfl rfl) rfl ?_
      refine xo_ef rfl (ef_alloc fun r10 => ?_)
      refine xo_ef rfl (ef_storeB [] _ rfl rfl (by first | rfl | assumption) rfl rfl rfl ?_)
      refine xo_rd (rd_assign rfl) rfl ?_
      refine xo_nil ?_
      refine xq_seq ?_
      refine xc_seq ?_
      refine xc_region ?_
      refine xo_rd (rd_loadB rfl Kn.o0 (by rfl)) rfl ?_
      refine xo_rd (rd_fieldAddr rfl) rfl ?_
      refine xo_ef rfl (ef_storeW [_, _] _ 2 (vs := y.enc) (cs := x.enc) (ws := Rr.enc { x with f := y }) rfl rfl rfl rfl rfl (by rw [Rr.len, Rf.len]; decide) (by kernel_rfl) ?_)
      refine xo_nil ?_
      refine xq_seq ?_
      refine xc_seq ?_
      refine xc_region ?_
      refine xo_rd (rd_loadB rfl Kn.o2 (by rfl)) rfl ?_
      refine xo_rd (rd_move rfl) rfl ?_
      refine xo_ef rfl (ef_storeB [_] _ rfl rfl (by first | rfl | assumption) rfl rfl rfl ?_)
      refine xo_rd (rd_assign rfl) rfl ?_
      refine xo_nil ?_
      refine xq_seq ?_
      refine xc_ret ?_
    exact xq_retB2 (.inl rfl) Tryz.results33 rfl rfl Kn.o1 rfl (List.sublist_append_right [_, _, _] _) ⟨{ x with f := y }, N, rfl, by simp only [Rr.ra, hya], hx.setF (by intro z hz; simp [hz]) hyat, rfl⟩
end Go.Proofs.YtmdeajdaeihniaaGreat.X
