/-
  RosterKnown: the walk of the law.
-/
import Derived.Test.YtginfcoaaioaeaaB1
namespace Go.Proofs.Ytginfcoaaioaeaa.X
open Go Go.RowKit
set_option linter.unusedVariables false
set_option linter.unusedSimpArgs false
structure KnS where
  i : Nat
  k : Int
  xs : List Act
  v : Value
  l : List Blk
structure KnI (s : KnS) : Prop where
  i : s.i ≤ 16
  k0 : 0 ≤ s.k
  k1 : s.k ≤ 10007
  xl : s.xs.length = s.i
  o : SlO 5 33 s.v s.i (s.xs.flatMap Act.enc) s.l
set_option maxRecDepth 8000 in
set_option maxHeartbeats 8000000 in
theorem xf_RosterKnown {W : World} : XF Try.prog W 6 #[] [] (fun v L' => v = .bool true) := by
  refine xf_enter (args := []) Try.func6 rfl Try.ntmps6 rfl ?_
  focus
    refine xc_seq ?_
    refine xc_region ?_
    refine xo_rd (rd_assign rfl) rfl ?_
    refine xo_nil ?_
    refine xq_seq ?_
    refine xc_seq ?_
    refine xc_seq ?_
    refine xc_region ?_
    refine xo_rd (rd_assign rfl) rfl ?_
    refine xo_nil ?_
    refine xq_seq ?_
    refine xc_block ?_
  refine xc_loopI (ι := Nat) (fun n => n ≤ 200) (fun n => 200 - n) (fun _ => []) (fun n => [(1, .int .i64 n)]) 0 (Nat.zero_le _) rfl (by repeat (first | exact keep_nil | refine keep_cons rfl ?_)) ?_
  intro n hn
  focus
    refine xc_seq ?_
    refine xc_seq ?_
    refine xc_region ?_
    refine xo_rd (rd_move rfl) rfl ?_
    refine xo_rd (rd_lss rfl rfl) rfl ?_
    refine xo_nil ?_
    refine xq_seq ?_
    refine xc_dec rfl (fun hn1 => ?_) (fun hn1 => ?_)
    refine xc_skip ?_
    refine xq_seq ?_
    refine xc_seq ?_
    refine xc_block ?_
    refine xc_seq ?_
    refine xc_region ?_
    refine xo_rd (rd_assign rfl) rfl ?_
    refine xo_nil ?_
    refine xq_seq ?_
    refine xc_seq ?_
    refine xc_region ?_
    refine xo_rd (rd_move rfl) rfl ?_
    refine xo_rd (rd_assign rfl) rfl ?_
    refine xo_nil ?_
    refine xq_seq ?_
    refine xc_seq ?_
    refine xc_seq ?_
    refine xc_region ?_
    refine xo_rd (rd_assign rfl) rfl ?_
    refine xo_nil ?_
    refine xq_seq ?_
    refine xc_block ?_
    rotate_left
    refine xc_exit ?_
    refine xq_then_exit ?_
    refine xq_then_exit ?_
    refine xq_block_hit ?_
    refine xq_seq ?_
    refine xc_seq ?_
    refine xc_region ?_
    refine xo_rd (rd_assign rfl) rfl ?_
    refine xo_nil ?_
    refine xq_seq ?_
    refine xc_seq ?_
    refine xc_seq ?_
    refine xc_region ?_
    refine xo_rd (rd_assign rfl) rfl ?_
    refine xo_nil ?_
    refine xq_seq ?_
    refine xc_block ?_
    rotate_left
  · refine xc_loopI (ι := KnS) KnI (fun s => 16 - s.i) (fun s => s.l ++ ([] : List Blk)) (fun s => [(1, .int .i64 n), (2, s.v), (3, .int .i64 s.k), (4, .int .i64 s.i)]) ⟨0, n, [], .slice none 0 0, []⟩ ⟨Nat.zero_le _, by dsimp only; omega, by dsimp only; omega, rfl, SlO.nil⟩ rfl (by repeat (first | exact keep_nil | refine keep_cons rfl ?_)) ?_
    rintro ⟨i, k, xs, v, l⟩ ⟨hi, hk0, hk1, hxl, hO⟩
    dsimp only at *
    obtain ⟨pv, cv, rfl, hO, _⟩ := hO.opn
    focus
      refine xc_seq ?_
      refine xc_seq ?_
      refine xc_region ?_
      refine xo_rd (rd_move rfl) rfl ?_
      refine xo_rd (rd_lss rfl rfl) rfl ?_
      refine xo_nil ?_
      refine xq_seq ?_
      refine xc_dec rfl (fun hi1 => ?_) (fun hi1 => ?_)
      refine xc_skip ?_
      refine xq_seq ?_
      refine xc_seq ?_
      refine xc_block ?_
      refine xc_seq ?_
      refine xc_region ?_
      refine xo_rd (rd_move rfl) rfl ?_
      refine xo_rd (rd_move rfl) rfl ?_
      refine xo_rd (rd_remn rfl rfl (by omega) (by omega)) rfl ?_
      refine xo_rd (rd_eql rfl rfl) rfl ?_
      refine xo_rd (rd_move rfl) rfl ?_
      refine xo_rd (rd_remn rfl rfl (by omega) (by omega)) rfl ?_
      refine xo_rd (rd_move rfl) rfl ?_
      refine xo_rd (rd_remn rfl rfl (by omega) (by omega)) rfl ?_
      refine xo_rd (rd_quon rfl rfl (by omega) (by omega) (by omega) (by omega)) rfl ?_
      refine xo_rd (rd_subn rfl rfl (by omega) (by omega)) rfl ?_
      refine xo_rd (rd_move rfl) rfl ?_
      refine xo_rd (rd_quon rfl rfl (by omega) (by omega) (by omega) (by omega)) rfl ?_
      refine xo_rd (rd_remn rfl rfl (by omega) (by omega)) rfl ?_
      refine xo_rd (rd_convn rfl (by omega) (by omega)) rfl ?_
      refine xo_rd (rd_move rfl) rfl ?_
      refine xo_rd (rd_quon rfl rfl (by omega) (by omega) (by omega) (by omega)) rfl ?_
      refine xo_rd (rd_remn rfl rfl (by omega) (by omega)) rfl ?_
      refine xo_rd (rd_convn rfl (by omega) (by omega)) rfl ?_
      refine xo_rd (rd_move rfl) rfl ?_
      refine xo_rd (rd_remn rfl rfl (by omega) (by omega)) rfl ?_
      refine xo_rd (rd_eql rfl rfl) rfl ?_
      refine xo_rd (rd_build rfl rfl rfl) rfl ?_
      refine xo_rd (rd_build rfl rfl rfl) rfl ?_
      refine xo_ef rfl (ef_sliceA (vs := (⟨decide (k % 4 = 3), ⟨k % 5 - k % 31 / 30, k / 2 % 9, k / 3 % 11, decide (k % 2 = 0)⟩⟩ : Act).enc) rfl rfl (by rw [Act.len]; decide) (by rw [Act.len]; decide) fun r39 => ?_)
      rotate_left
      refine xc_exit ?_
      refine xq_then_exit ?_
      refine xq_then_exit ?_
      rotate_left
    · refine xo_ef rfl (ef_append [_] [] l rfl rfl hO rfl (Rs.fresh (List.Mem.head _)) rfl rfl (by decide) (by omega) (by omega) fun v' l' hO' => ?_)
      refine xo_tail ?_
      focus
        refine xo_rd (rd_assign rfl) rfl ?_
        refine xo_nil ?_
        refine xq_seq ?_
        refine xc_region ?_
        refine xo_rd (rd_move rfl) rfl ?_
        refine xo_rd (rd_muln rfl rfl (by omega) (by omega)) rfl ?_
        refine xo_rd (rd_move rfl) rfl ?_
        refine xo_rd (rd_muln rfl rfl (by omega) (by omega)) rfl ?_
        refine xo_rd (rd_addn rfl rfl (by omega) (by omega)) rfl ?_
        refine xo_rd (rd_addn rfl rfl (by omega) (by omega)) rfl ?_
        refine xo_rd (rd_remn rfl rfl (by omega) (by omega)) rfl ?_
        refine xo_rd (rd_assign rfl) rfl ?_
        refine xo_nil ?_
        refine xq_block ?_
        refine xq_seq ?_
        refine xc_region ?_
        refine xo_rd (rd_move rfl) rfl ?_
        refine xo_rd (rd_addn rfl rfl (by omega) (by omega)) rfl ?_
        refine xo_rd (rd_assign rfl) rfl ?_
        refine xo_nil ?_
      refine xq_roundI (⟨i + 1, (k * 7 + 5 * i + 3) % 10007, xs ++ [⟨decide (k % 4 = 3), ⟨k % 5 - k % 31 / 30, k / 2 % 9, k / 3 % 11, decide (k % 2 = 0)⟩⟩], v', l'⟩ : KnS) ⟨by dsimp only; omega, by dsimp only; omega, by dsimp only; omega, by simp [hxl], by dsimp only; rw [List.flatMap_append]; simpa using hO'⟩ (by dsimp only; omega) rfl (by repeat (first | exact keep_nil | refine keep_cons rfl ?_))
    · skip
      have hrx : Rs W (l ++ []) pv (xs.flatMap Act.enc) := hO.rs (by intro z hz; simp [hz])
      focus
        refine xq_block_hit ?_
        refine xq_seq ?_
        refine xc_seq ?_
        refine xc_region ?_
        refine xo_rd (rd_move rfl) rfl ?_
        refine xo_rd (rd_remn rfl rfl (by omega) (by omega)) rfl ?_
        refine xo_rd (rd_subn rfl rfl (by omega) (by omega)) rfl ?_
        refine xo_rd (rd_move rfl) rfl ?_
        refine xo_rd (rd_move rfl) rfl ?_
        refine xo_rd (rd_remn rfl rfl (by omega) (by omega)) rfl ?_
        refine xo_rd (rd_move rfl) rfl ?_
        refine xo_rd (rd_remn rfl rfl (by omega) (by omega)) rfl ?_
        refine xo_rd (rd_convn rfl (by omega) (by omega)) rfl ?_
        refine xo_ef rfl (ef_call rfl (XF.mono (xf_over fun w hw => xf_RosterPlays _ _ _ _ xs _ _ hxl (hrx.over hw) (by omega)) ?_))
        rintro v L' ⟨rfl, rfl⟩
        refine xo_rd (rd_not rfl) rfl ?_
        refine xo_rd (rd_move rfl) rfl ?_
        refine xo_grd rfl rfl (rd_move rfl) rfl ?_
        refine xo_grd rfl rfl (rd_remn rfl rfl (by omega) (by omega)) rfl ?_
        refine xo_grd rfl rfl (rd_move rfl) rfl ?_
        refine xo_gef rfl rfl rfl (ef_call rfl (XF.mono (xf_over fun w hw => xf_RosterSources _ _ _ _ xs hxl (hrx.over hw) (by omega)) ?_))
        rintro v L' ⟨rfl, rfl⟩
        refine xo_grd rfl rfl (rd_not rfl) rfl ?_
        refine xo_rd (rd_pickf rfl rfl) rfl ?_
        refine xo_nil ?_
        refine xq_seq ?_
        refine xc_condf rfl ?_
        refine xc_skip ?_
        refine xq_block ?_
        refine xq_seq ?_
        refine xc_region ?_
        refine xo_rd (rd_move rfl) rfl ?_
        refine xo_rd (rd_addn rfl rfl (by omega) (by omega)) rfl ?_
        refine xo_rd (rd_assign rfl) rfl ?_
        refine xo_nil ?_
      refine xq_sub (L' := []) (List.nil_sublist _) ?_
      exact xq_roundI (n + 1) (by omega) (by omega) rfl (by repeat (first | exact keep_nil | refine keep_cons rfl ?_))
  · refine xc_loopI (ι := KnS) (fun s => s.i ≤ 34 ∧ s.xs.length = s.i ∧ SlO 5 33 s.v s.i (s.xs.flatMap Act.enc) s.l ∧ (0 < s.i → s.xs[0]? = some ⟨false, 0, 1, 2, false⟩)) (fun s => 34 - s.i) (fun s => s.l ++ ([] : List Blk)) (fun s => [(5, s.v), (6, .int .i64 s.i)]) ⟨0, 0, [], .slice none 0 0, []⟩ ⟨Nat.zero_le _, rfl, SlO.nil, fun h => absurd h (Nat.lt_irrefl _)⟩ rfl (by repeat (first | exact keep_nil | refine keep_cons rfl ?_)) ?_
    rintro ⟨i, k, xs, v, l⟩ ⟨hi, hxl, hO, h0⟩
    dsimp only at *
    obtain ⟨pv, cv, rfl, hO, _⟩ := hO.opn
    focus
      refine xc_seq ?_
      refine xc_seq ?_
      refine xc_region ?_
      refine xo_rd (rd_move rfl) rfl ?_
      refine xo_rd (rd_lss rfl rfl) rfl ?_
      refine xo_nil ?_
      refine xq_seq ?_
      refine xc_dec rfl (fun hi1 => ?_) (fun hi1 => ?_)
      refine xc_skip ?_
      refine xq_seq ?_
      refine xc_seq ?_
      refine xc_block ?_
      refine xc_region ?_
      refine xo_rd (rd_move rfl) rfl ?_
      refine xo_rd (rd_move rfl) rfl ?_
      refine xo_rd (rd_move rfl) rfl ?_
      refine xo_rd (rd_muln rfl rfl (by omega) (by omega)) rfl ?_
      refine xo_rd (rd_addn rfl rfl (by omega) (by omega)) rfl ?_
      refine xo_rd (rd_convn rfl (by omega) (by omega)) rfl ?_
      refine xo_rd (rd_move rfl) rfl ?_
      refine xo_rd (rd_muln rfl rfl (by omega) (by omega)) rfl ?_
      refine xo_rd (rd_addn rfl rfl (by omega) (by omega)) rfl ?_
      refine xo_rd (rd_convn rfl (by omega) (by omega)) rfl ?_
      refine xo_rd (rd_build rfl rfl rfl) rfl ?_
      refine xo_rd (rd_build rfl rfl rfl) rfl ?_
      refine xo_ef rfl (ef_sliceA (vs := (⟨false, ⟨i, 2 * i + 1, 2 * i + 2, false⟩⟩ : Act).enc) rfl rfl (by rw [Act.len]; decide) (by rw [Act.len]; decide) fun r82 => ?_)
      rotate_left
      refine xc_exit ?_
      refine xq_then_exit ?_
      refine xq_then_exit ?_
      rotate_left
    · refine xo_ef rfl (ef_append [_] [] l rfl rfl hO rfl (Rs.fresh (List.Mem.head _)) rfl rfl (by decide) (by omega) (by omega) fun v' l' hO' => ?_)
      refine xo_tail ?_
      focus
        refine xo_rd (rd_assign rfl) rfl ?_
        refine xo_nil ?_
        refine xq_block ?_
        refine xq_seq ?_
        refine xc_region ?_
        refine xo_rd (rd_move rfl) rfl ?_
        refine xo_rd (rd_addn rfl rfl (by omega) (by omega)) rfl ?_
        refine xo_rd (rd_assign rfl) rfl ?_
        refine xo_nil ?_
      refine xq_roundI (⟨i + 1, 0, xs ++ [⟨false, ⟨i, 2 * i + 1, 2 * i + 2, false⟩⟩], v', l'⟩ : KnS) ⟨by dsimp only; omega, by simp [hxl], by dsimp only; rw [List.flatMap_append]; simpa using hO', fun _ => ?_⟩ (by dsimp only; omega) rfl (by repeat (first | exact keep_nil | refine keep_cons rfl ?_))
      dsimp only
      by_cases hz : 0 < i
      · rw [List.getElem?_append_left (by omega)]; exact h0 hz
      · have hz' : i = 0 := by omega
        subst hz'
        rw [List.length_eq_zero_iff.1 hxl]; rfl
    · skip
      have hrx : Rs W (l ++ []) pv (xs.flatMap Act.enc) := hO.rs (by intro z hz; simp [hz])
      have hx0 : (0 : Nat) < xs.length := by omega
      have h00 : xs[0] = ⟨false, 0, 1, 2, false⟩ := by
        have := h0 (by omega)
        rw [List.getElem?_eq_getElem hx0] at this
        exact Option.some.inj this
      obtain ⟨b0, o0, hp, hc⟩ := hrx.row Act.len (by decide) hx0
      subst hp
      rw [h00] at hc
      have hcM : ∀ (j : Nat) (u : Value), (Mb.mk 0 1 2 false).enc[j]? = some u → Cl W (l ++ []) b0 (o0 + 0 * 5 + 1 + j) u := fun j u hj => by
        have := hc (1 + j) u (by unfold Act.enc; rw [List.getElem?_append_right (by simp)]; simpa using hj)
        rwa [Nat.add_assoc]
      focus
        refine xq_block_hit ?_
        refine xq_seq ?_
        refine xc_seq ?_
        refine xc_region ?_
        refine xo_rd (rd_move rfl) rfl ?_
        refine xo_ef rfl (ef_call rfl (XF.mono (xf_over fun w hw => xf_RosterPlays _ _ _ _ xs _ _ hxl (hrx.over hw) (by omega)) ?_))
        rintro v L' ⟨rfl, rfl⟩
        refine xo_rd (rd_move rfl) rfl ?_
        refine xo_grd rfl rfl (rd_move rfl) rfl ?_
        refine xo_gef rfl rfl rfl (ef_call rfl (XF.mono (xf_over fun w hw => xf_RosterPlays _ _ _ _ xs _ _ hxl (hrx.over hw) (by omega)) ?_))
        rintro v L' ⟨rfl, rfl⟩
        refine xo_rd (rd_pickt rfl rfl) rfl ?_
        refine xo_rd (rd_move rfl) rfl ?_
        refine xo_grd rfl rfl (rd_move rfl) rfl ?_
        refine xo_gef rfl rfl rfl (ef_call rfl (XF.mono (xf_over fun w hw => xf_RosterSources _ _ _ _ xs hxl (hrx.over hw) (by omega)) ?_))
        rintro v L' ⟨rfl, rfl⟩
        refine xo_rd (rd_pickt rfl rfl) rfl ?_
        refine xo_rd (rd_move rfl) rfl ?_
        refine xo_grd rfl rfl (rd_move rfl) rfl ?_
        refine xo_grd rfl rfl (rd_indexAddr rfl rfl (by omega) (by omega)) rfl ?_
        refine xo_grd rfl rfl (rd_fieldAddr rfl) rfl ?_
        refine xo_grd rfl rfl (rd_loadA (vs := (Mb.mk 0 1 2 false).enc) rfl rfl hcM) rfl ?_
        refine xo_gef rfl rfl rfl (ef_call rfl (XF.mono (xf_over fun w hw => xf_RosterNone ⟨0, 1, 2, false⟩) ?_))
        rintro v L' ⟨rfl, rfl⟩
        refine xo_rd (rd_pickt rfl rfl) rfl ?_
        refine xo_rd (rd_move rfl) rfl ?_
        refine xo_gef rfl rfl rfl (ef_call rfl (XF.mono (xf_works) ?_))
        rintro v L' ⟨rfl, rfl⟩
        refine xo_rd (rd_pickt rfl rfl) rfl ?_
        refine xo_rd (rd_assign rfl) rfl ?_
        refine xo_nil ?_
        refine xq_seq ?_
        refine xc_ret ?_
        exact xq_ret1 (.inl rfl) Try.results6 rfl (rfl)
      done
end Go.Proofs.Ytginfcoaaioaeaa.X
