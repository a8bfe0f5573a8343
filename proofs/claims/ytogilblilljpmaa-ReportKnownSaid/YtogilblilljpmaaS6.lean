/-
  Texts of my own, put together: walks and laws for this seat. No condition.
-/
import Derived.Test.YtogilblilljpmaaS5
/-
  The reader of a body: what it takes off, and its small functions' walks.
-/
namespace Go.Proofs.Ytogilblilljpmaa.X
open Go Go.RowKit
set_option linter.unusedVariables false
set_option linter.unusedSimpArgs false
structure Rd where
  l : List Int
  k : Nat
  bad : Bool
/-- So many bytes are taken off. -/
def Rd.take (r : Rd) (n : Nat) : List Int × Rd := if r.bad = true ∨ r.l.length < n then (List.replicate n 0, ⟨r.l, r.k, true⟩) else (r.l.take n, ⟨r.l.drop n, r.k + n, false⟩)
def rdC (p : Option Addr) (c : Nat) (r : Rd) : List Value := [.slice p r.l.length c, .int .i64 r.k, .bool r.bad]
structure Rd.Ok (r : Rd) (K : Nat) : Prop where
  by' : ∀ x, x ∈ r.l → By x
  sz : r.k + r.l.length ≤ K
theorem Rd.take_len (r : Rd) (n : Nat) : (r.take n).1.length = n := by
  unfold Rd.take
  split
  · simp
  · rw [List.length_take]; omega
theorem Rd.take_by {r : Rd} {K : Nat} (h : r.Ok K) (n : Nat) : (∀ x, x ∈ (r.take n).1 → By x) ∧ (r.take n).2.Ok K := by
  unfold Rd.take
  split
  · exact ⟨fun x hx => by rw [(List.mem_replicate.1 hx).2]; exact ⟨by decide, by decide⟩, h.by', h.sz⟩
  · refine ⟨fun x hx => h.by' x (List.mem_of_mem_take hx), fun x hx => h.by' x (List.mem_of_mem_drop hx), ?_⟩
    have := h.sz
    dsimp only
    rw [List.length_drop]; omega
theorem Rd.take_bad {r : Rd} {n : Nat} (h : r.bad = true ∨ r.l.length < n) : r.take n = (List.replicate n 0, ⟨r.l, r.k, true⟩) := by unfold Rd.take; rw [if_pos h]
theorem Rd.take_ok {r : Rd} {n : Nat} (h : ¬ (r.bad = true ∨ r.l.length < n)) : r.take n = (r.l.take n, ⟨r.l.drop n, r.k + n, false⟩) := by unfold Rd.take; rw [if_neg h]
/-- The reader, behind what was read. -/
def RdN (W : World) (L : List Blk) (b : Nat) (p : Option Addr) (r r' : Rd) (L' : List Blk) : Prop :=
  ∃ p' c', (∀ L0, Rs W L0 p (ints .u8 r.l) → Rs W L0 p' (ints .u8 r'.l)) ∧ r'.l.length ≤ c' ∧ L' = (b, .cells (rdC p' c' r').toArray 130 (0, 0)) :: L
set_option maxHeartbeats 4000000 in
theorem xf_bts {W : World} {L : List Blk} (b : Nat) (p : Option Addr) (c : Nat) (r : Rd) (n : Nat) (hr : Rs W L p (ints .u8 r.l)) (hc : r.l.length ≤ c) (hk : r.k + r.l.length ≤ 1000000000) (hn : n ≤ 1000000) :
    XF Try.prog W 77 #[.pointer (some ⟨b, 0, none⟩), .int .i64 n] ((b, .cells (rdC p c r).toArray 130 (0, 0)) :: L) (fun v L' => ∃ q k l, v = .slice q n k ∧ n ≤ k ∧ Rs W (l ++ L) q (ints .u8 (r.take n).1) ∧ RdN W (l ++ L) b p r (r.take n).2 L') := by
  refine xf_enter (args := [_, _]) Try.func77 rfl Try.ntmps77 rfl ?_
  obtain ⟨xs, at', bad⟩ := r
  dsimp only at hr hc hk
  unfold rdC
  by_cases hbad : bad = true ∨ xs.length < n
  · rw [Rd.take_bad hbad]
    dsimp only
    have hfin : ∀ r22 : Nat, Rs W ([(r22, Obj.cells (List.replicate n (.int .u8 0)).toArray 5 (0, 0))] ++ L) (some ⟨r22, 0, none⟩) (ints .u8 (List.replicate n 0)) := fun r22 => by
      rw [ints_rep]; exact Rs.fresh (List.Mem.head _)
    cases bad with
    | true =>
      focus
        refine xc_seq ?_
        refine xc_region ?_
        refine xo_rd (rd_assign rfl) rfl ?_
        refine xo_nil ?_
        refine xq_seq ?_
        refine xc_seq ?_
        refine xc_seq ?_
        refine xc_region ?_
        refine xo_rd (rd_move rfl) rfl ?_
        refine xo_rd (rd_nilCheck rfl) rfl ?_
        refine xo_rd (rd_fieldAddr rfl) rfl ?_
        refine xo_rd (rd_load1 rfl (Cl.o0 rfl)) rfl ?_
        refine xo_rd (rd_move rfl) rfl ?_
        refine xo_gskip rfl rfl rfl rfl ?_
        refine xo_gskip rfl rfl rfl rfl ?_
        refine xo_gskip rfl rfl rfl rfl ?_
        refine xo_gskip rfl rfl rfl rfl ?_
        refine xo_gskip rfl rfl rfl rfl ?_
        refine xo_gskip rfl rfl rfl rfl ?_
        refine xo_gskip rfl rfl rfl rfl ?_
        refine xo_rd (rd_pickt rfl rfl) rfl ?_
        refine xo_nil ?_
        refine xq_seq ?_
        refine xc_condt rfl ?_
        refine xc_seq ?_
        refine xc_region ?_
        refine xo_rd (rd_move rfl) rfl ?_
        refine xo_rd (rd_nilCheck rfl) rfl ?_
        refine xo_rd (rd_fieldAddr rfl) rfl ?_
        refine xo_ef rfl (ef_store1 [] _ rfl rfl (by first | rfl | assumption) rfl rfl rfl ?_)
        refine xo_nil ?_
        refine xq_seq ?_
        refine xc_seq ?_
        refine xc_region ?_
        refine xo_rd (rd_move rfl) rfl ?_
        refine xo_ef rfl (ef_makeSlice rfl rfl rfl (by omega) (by omega) (by omega) (by decide) fun r23 => ?_)
        refine xo_rd (rd_assign rfl) rfl ?_
        refine xo_nil ?_
        refine xq_seq ?_
        refine xc_ret ?_
        refine xq_then_ret ?_
      refine xq_perm (List.Perm.swap _ _ _) ?_
      exact xq_ret1 (.inl rfl) Try.results77 rfl ⟨_, _, _, rfl, Nat.le_refl _, hfin _, p, c, (fun _ h => h), hc, rfl⟩
    | false =>
      have hlt : xs.length < n := by simpa using hbad
      focus
        refine xc_seq ?_
        refine xc_region ?_
        refine xo_rd (rd_assign rfl) rfl ?_
        refine xo_nil ?_
        refine xq_seq ?_
        refine xc_seq ?_
        refine xc_seq ?_
        refine xc_region ?_
        refine xo_rd (rd_move rfl) rfl ?_
        refine xo_rd (rd_nilCheck rfl) rfl ?_
        refine xo_rd (rd_fieldAddr rfl) rfl ?_
        refine xo_rd (rd_load1 rfl (Cl.o0 rfl)) rfl ?_
        refine xo_rd (rd_move rfl) rfl ?_
        refine xo_grd rfl rfl (rd_move rfl) rfl ?_
        refine xo_grd rfl rfl (rd_nilCheck rfl) rfl ?_
        refine xo_grd rfl rfl (rd_fieldAddr rfl) rfl ?_
        refine xo_grd rfl rfl (rd_load1 rfl (Cl.o0 rfl)) rfl ?_
        refine xo_grd rfl rfl (rd_len rfl) rfl ?_
        refine xo_grd rfl rfl (rd_move rfl) rfl ?_
        refine xo_grd rfl rfl (rd_lss rfl rfl) rfl ?_
        refine xo_rd (rd_pickf rfl rfl) rfl ?_
        refine xo_nil ?_
        refine xq_seq ?_
        refine xc_dec rfl (fun h1 => ?_) (fun h1 => (by exfalso; omega))
        refine xc_seq ?_
        refine xc_region ?_
        refine xo_rd (rd_move rfl) rfl ?_
        refine xo_rd (rd_nilCheck rfl) rfl ?_
        refine xo_rd (rd_fieldAddr rfl) rfl ?_
        refine xo_ef rfl (ef_store1 [] _ rfl rfl (by first | rfl | assumption) rfl rfl rfl ?_)
        refine xo_nil ?_
        refine xq_seq ?_
        refine xc_seq ?_
        refine xc_region ?_
        refine xo_rd (rd_move rfl) rfl ?_
        refine xo_ef rfl (ef_makeSlice rfl rfl rfl (by omega) (by omega) (by omega) (by decide) fun r23 => ?_)
        refine xo_rd (rd_assign rfl) rfl ?_
        refine xo_nil ?_
        refine xq_seq ?_
        refine xc_ret ?_
        refine xq_then_ret ?_
      refine xq_perm (List.Perm.swap _ _ _) ?_
      exact xq_ret1 (.inl rfl) Try.results77 rfl ⟨_, _, _, rfl, Nat.le_refl _, hfin _, p, c, (fun _ h => h), hc, rfl⟩
  · rw [Rd.take_ok hbad]
    dsimp only
    obtain ⟨rfl, hle⟩ : bad = false ∧ n ≤ xs.length := by
      cases bad
      · exact ⟨rfl, by simpa using hbad⟩
      · exact absurd (.inl rfl) hbad
    focus
      refine xc_seq ?_
      refine xc_region ?_
      refine xo_rd (rd_assign rfl) rfl ?_
      refine xo_nil ?_
      refine xq_seq ?_
      refine xc_seq ?_
      refine xc_seq ?_
      refine xc_region ?_
      refine xo_rd (rd_move rfl) rfl ?_
      refine xo_rd (rd_nilCheck rfl) rfl ?_
      refine xo_rd (rd_fieldAddr rfl) rfl ?_
      refine xo_rd (rd_load1 rfl (Cl.o0 rfl)) rfl ?_
      refine xo_rd (rd_move rfl) rfl ?_
      refine xo_grd rfl rfl (rd_move rfl) rfl ?_
      refine xo_grd rfl rfl (rd_nilCheck rfl) rfl ?_
      refine xo_grd rfl rfl (rd_fieldAddr rfl) rfl ?_
      refine xo_grd rfl rfl (rd_load1 rfl (Cl.o0 rfl)) rfl ?_
      refine xo_grd rfl rfl (rd_len rfl) rfl ?_
      refine xo_grd rfl rfl (rd_move rfl) rfl ?_
      refine xo_grd rfl rfl (rd_lss rfl rfl) rfl ?_
      refine xo_rd (rd_pickf rfl rfl) rfl ?_
      refine xo_nil ?_
      refine xq_seq ?_
      refine xc_dec rfl (fun h1 => (by exfalso; omega)) (fun h1 => ?_)
      refine xc_skip ?_
      refine xq_seq ?_
      refine xc_seq ?_
      refine xc_region ?_
      refine xo_rd (rd_move rfl) rfl ?_
      refine xo_rd (rd_nilCheck rfl) rfl ?_
      refine xo_rd (rd_fieldAddr rfl) rfl ?_
      refine xo_rd (rd_load1 rfl (Cl.o0 rfl)) rfl ?_
      refine xo_rd (rd_move rfl) rfl ?_
      refine xo_rd (rd_slHi rfl rfl (by omega) (by omega)) rfl ?_
      refine xo_rd (rd_assign rfl) rfl ?_
      refine xo_nil ?_
      refine xq_seq ?_
      refine xc_seq ?_
      refine xc_drawM [0, 0, 0, 4, 8, 16, 0, 96, 0, 256, 512, 1024, 0, 6144, 2301, 18685, 35069, 131071, 262143, 393215] [0, 0, 0, 4, 8, 16, 0, 96, 0, 256, 512, 1024, 0, 6144, 2301, 18685, 35069, 131071, 262143, 393215] [] (by kernel_rfl) (by kernel_rfl) (by kernel_rfl) ?_
      refine xm_take 0 (m' := 1) rfl (by kernel_rfl) (by first | exact Sb.refl | exact Sb.nil | (repeat (first | exact Sb.nil | exact Sb.refl | exact Sb.app0 | apply Sb.keep | apply Sb.keepApp | apply Sb.cons | apply Sb.app))) (rd_move rfl) rfl (by kernel_rfl) ?_
      refine xm_take 1 (m' := 3) rfl (by kernel_rfl) (by first | exact Sb.refl | exact Sb.nil | (repeat (first | exact Sb.nil | exact Sb.refl | exact Sb.app0 | apply Sb.keep | apply Sb.keepApp | apply Sb.cons | apply Sb.app))) (rd_move rfl) rfl (by kernel_rfl) ?_
      refine xm_take 2 (m' := 7) rfl (by kernel_rfl) (by first | exact Sb.refl | exact Sb.nil | (repeat (first | exact Sb.nil | exact Sb.refl | exact Sb.app0 | apply Sb.keep | apply Sb.keepApp | apply Sb.cons | apply Sb.app))) (rd_move rfl) rfl (by kernel_rfl) ?_
      refine xm_take 3 (m' := 15) rfl (by kernel_rfl) (by first | exact Sb.refl | exact Sb.nil | (repeat (first | exact Sb.nil | exact Sb.refl | exact Sb.app0 | apply Sb.keep | apply Sb.keepApp | apply Sb.cons | apply Sb.app))) (rd_nilCheck rfl) rfl (by kernel_rfl) ?_
      refine xm_take 4 (m' := 31) rfl (by kernel_rfl) (by first | exact Sb.refl | exact Sb.nil | (repeat (first | exact Sb.nil | exact Sb.refl | exact Sb.app0 | apply Sb.keep | apply Sb.keepApp | apply Sb.cons | apply Sb.app))) (rd_fieldAddr rfl) rfl (by kernel_rfl) ?_
      refine xm_take 6 (m' := 95) rfl (by kernel_rfl) (by first | exact Sb.refl | exact Sb.nil | (repeat (first | exact Sb.nil | exact Sb.refl | exact Sb.app0 | apply Sb.keep | apply Sb.keepApp | apply Sb.cons | apply Sb.app))) (rd_move rfl) rfl (by kernel_rfl) ?_
      refine xm_take 8 (m' := 351) rfl (by kernel_rfl) (by first | exact Sb.refl | exact Sb.nil | (repeat (first | exact Sb.nil | exact Sb.refl | exact Sb.app0 | apply Sb.keep | apply Sb.keepApp | apply Sb.cons | apply Sb.app))) (rd_move rfl) rfl (by kernel_rfl) ?_
      refine xm_take 9 (m' := 863) rfl (by kernel_rfl) (by first | exact Sb.refl | exact Sb.nil | (repeat (first | exact Sb.nil | exact Sb.refl | exact Sb.app0 | apply Sb.keep | apply Sb.keepApp | apply Sb.cons | apply Sb.app))) (rd_nilCheck rfl) rfl (by kernel_rfl) ?_
      refine xm_take 10 (m' := 1887) rfl (by kernel_rfl) (by first | exact Sb.refl | exact Sb.nil | (repeat (first | exact Sb.nil | exact Sb.refl | exact Sb.app0 | apply Sb.keep | apply Sb.keepApp | apply Sb.cons | apply Sb.app))) (rd_fieldAddr rfl) rfl (by kernel_rfl) ?_
      refine xm_take 12 (m' := 5983) rfl (by kernel_rfl) (by first | exact Sb.refl | exact Sb.nil | (repeat (first | exact Sb.nil | exact Sb.refl | exact Sb.app0 | apply Sb.keep | apply Sb.keepApp | apply Sb.cons | apply Sb.app))) (rd_move rfl) rfl (by kernel_rfl) ?_
      refine xm_two 5 11 (mi := 6015) (mk := 8031) rfl rfl (by kernel_rfl) rfl rfl (by kernel_rfl) (by kernel_rfl) (ef_rd (rd_load1 rfl (Cl.o0 rfl)) ⟨(by first | exact Sb.refl | exact Sb.nil | (repeat (first | exact Sb.nil | exact Sb.refl | exact Sb.app0 | apply Sb.keep | apply Sb.keepApp | apply Sb.cons | apply Sb.app))), ?_⟩) (ef_rd (rd_load1 rfl (Cl.o0 rfl)) ⟨(by first | exact Sb.refl | exact Sb.nil | (repeat (first | exact Sb.nil | exact Sb.refl | exact Sb.app0 | apply Sb.keep | apply Sb.keepApp | apply Sb.cons | apply Sb.app))), ?_⟩)
      refine xm_take 7 (m' := 6143) rfl (by kernel_rfl) (by first | exact Sb.refl | exact Sb.nil | (repeat (first | exact Sb.nil | exact Sb.refl | exact Sb.app0 | apply Sb.keep | apply Sb.keepApp | apply Sb.cons | apply Sb.app))) (rd_slLo rfl rfl (by omega) (by omega)) rfl (by kernel_rfl) ?_
      refine xm_one 11 (m' := 8191) rfl (by kernel_rfl) rfl (by kernel_rfl) (ef_rd (rd_load1 rfl (Cl.o0 rfl)) ?_)
      refine ⟨(by first | exact Sb.refl | exact Sb.nil | (repeat (first | exact Sb.nil | exact Sb.refl | exact Sb.app0 | apply Sb.keep | apply Sb.keepApp | apply Sb.cons | apply Sb.app))), ?_⟩
      refine xm_take 13 (m' := 16383) rfl (by kernel_rfl) (by first | exact Sb.refl | exact Sb.nil | (repeat (first | exact Sb.nil | exact Sb.refl | exact Sb.app0 | apply Sb.keep | apply Sb.keepApp | apply Sb.cons | apply Sb.app))) (rd_addn rfl rfl (by omega) (by omega)) rfl (by kernel_rfl) ?_
      refine xm_take 14 (m' := 32767) rfl (by kernel_rfl) (by first | exact Sb.refl | exact Sb.nil | (repeat (first | exact Sb.nil | exact Sb.refl | exact Sb.app0 | apply Sb.keep | apply Sb.keepApp | apply Sb.cons | apply Sb.app))) (rd_nilCheck rfl) rfl (by kernel_rfl) ?_
      refine xm_take 15 (m' := 65535) rfl (by kernel_rfl) (by first | exact Sb.refl | exact Sb.nil | (repeat (first | exact Sb.nil | exact Sb.refl | exact Sb.app0 | apply Sb.keep | apply Sb.keepApp | apply Sb.cons | apply Sb.app))) (rd_fieldAddr rfl) rfl (by kernel_rfl) ?_
      refine xm_one 16 (m' := 131071) rfl (by kernel_rfl) rfl (by kernel_rfl) (ef_store1 [] _ rfl rfl (by first | rfl | assumption) rfl rfl rfl ?_)
      refine ⟨(by first | exact Sb.refl | exact Sb.nil | (repeat (first | exact Sb.nil | exact Sb.refl | exact Sb.app0 | apply Sb.keep | apply Sb.keepApp | apply Sb.cons | apply Sb.app))), ?_⟩
      refine xm_take 17 (m' := 262143) rfl (by kernel_rfl) (by first | exact Sb.refl | exact Sb.nil | (repeat (first | exact Sb.nil | exact Sb.refl | exact Sb.app0 | apply Sb.keep | apply Sb.keepApp | apply Sb.cons | apply Sb.app))) (rd_nilCheck rfl) rfl (by kernel_rfl) ?_
      refine xm_take 18 (m' := 524287) rfl (by kernel_rfl) (by first | exact Sb.refl | exact Sb.nil | (repeat (first | exact Sb.nil | exact Sb.refl | exact Sb.app0 | apply Sb.keep | apply Sb.keepApp | apply Sb.cons | apply Sb.app))) (rd_fieldAddr rfl) rfl (by kernel_rfl) ?_
      refine xm_one 19 (m' := 1048575) rfl (by kernel_rfl) rfl (by kernel_rfl) (ef_store1 [] _ rfl rfl (by first | rfl | assumption) rfl rfl rfl ?_)
      refine ⟨(by first | exact Sb.refl | exact Sb.nil | (repeat (first | exact Sb.nil | exact Sb.refl | exact Sb.app0 | apply Sb.keep | apply Sb.keepApp | apply Sb.cons | apply Sb.app))), ?_⟩
      refine xm_done (by kernel_rfl) ?_
      refine xq_seq ?_
      refine xc_seq ?_
      refine xc_region ?_
      refine xo_rd (rd_move rfl) rfl ?_
      refine xo_rd (rd_assign rfl) rfl ?_
      refine xo_nil ?_
      refine xq_seq ?_
      refine xc_ret ?_
      rotate_left
      refine xm_take 13 (m' := 16223) rfl (by kernel_rfl) (by first | exact Sb.refl | exact Sb.nil | (repeat (first | exact Sb.nil | exact Sb.refl | exact Sb.app0 | apply Sb.keep | apply Sb.keepApp | apply Sb.cons | apply Sb.app))) (rd_addn rfl rfl (by omega) (by omega)) rfl (by kernel_rfl) ?_
      refine xm_one 5 (m' := 16255) rfl (by kernel_rfl) rfl (by kernel_rfl) (ef_rd (rd_load1 rfl (Cl.o0 rfl)) ?_)
      refine ⟨(by first | exact Sb.refl | exact Sb.nil | (repeat (first | exact Sb.nil | exact Sb.refl | exact Sb.app0 | apply Sb.keep | apply Sb.keepApp | apply Sb.cons | apply Sb.app))), ?_⟩
      refine xm_take 7 (m' := 16383) rfl (by kernel_rfl) (by first | exact Sb.refl | exact Sb.nil | (repeat (first | exact Sb.nil | exact Sb.refl | exact Sb.app0 | apply Sb.keep | apply Sb.keepApp | apply Sb.cons | apply Sb.app))) (rd_slLo rfl rfl (by omega) (by omega)) rfl (by kernel_rfl) ?_
      refine xm_take 14 (m' := 32767) rfl (by kernel_rfl) (by first | exact Sb.refl | exact Sb.nil | (repeat (first | exact Sb.nil | exact Sb.refl | exact Sb.app0 | apply Sb.keep | apply Sb.keepApp | apply Sb.cons | apply Sb.app))) (rd_nilCheck rfl) rfl (by kernel_rfl) ?_
      refine xm_take 15 (m' := 65535) rfl (by kernel_rfl) (by first | exact Sb.refl | exact Sb.nil | (repeat (first | exact Sb.nil | exact Sb.refl | exact Sb.app0 | apply Sb.keep | apply Sb.keepApp | apply Sb.cons | apply Sb.app))) (rd_fieldAddr rfl) rfl (by kernel_rfl) ?_
      refine xm_one 16 (m' := 131071) rfl (by kernel_rfl) rfl (by kernel_rfl) (ef_store1 [] _ rfl rfl (by first | rfl | assumption) rfl rfl rfl ?_)
      refine ⟨(by first | exact Sb.refl | exact Sb.nil | (repeat (first | exact Sb.nil | exact Sb.refl | exact Sb.app0 | apply Sb.keep | apply Sb.keepApp | apply Sb.cons | apply Sb.app))), ?_⟩
      refine xm_take 17 (m' := 262143) rfl (by kernel_rfl) (by first | exact Sb.refl | exact Sb.nil | (repeat (first | exact Sb.nil | exact Sb.refl | exact Sb.app0 | apply Sb.keep | apply Sb.keepApp | apply Sb.cons | apply Sb.app))) (rd_nilCheck rfl) rfl (by kernel_rfl) ?_
      refine xm_take 18 (m' := 524287) rfl (by kernel_rfl) (by first | exact Sb.refl | exact Sb.nil | (repeat (first | exact Sb.nil | exact Sb.refl | exact Sb.app0 | apply Sb.keep | apply Sb.keepApp | apply Sb.cons | apply Sb.app))) (rd_fieldAddr rfl) rfl (by kernel_rfl) ?_
      refine xm_one 19 (m' := 1048575) rfl (by kernel_rfl) rfl (by kernel_rfl) (ef_store1 [] _ rfl rfl (by first | rfl | assumption) rfl rfl rfl ?_)
      refine ⟨(by first | exact Sb.refl | exact Sb.nil | (repeat (first | exact Sb.nil | exact Sb.refl | exact Sb.app0 | apply Sb.keep | apply Sb.keepApp | apply Sb.cons | apply Sb.app))), ?_⟩
      refine xm_done (by kernel_rfl) ?_
      refine xq_seq ?_
      refine xc_seq ?_
      refine xc_region ?_
      refine xo_rd (rd_move rfl) rfl ?_
      refine xo_rd (rd_assign rfl) rfl ?_
      refine xo_nil ?_
      refine xq_seq ?_
      refine xc_ret ?_
      rotate_left
    all_goals refine xq_ret1 (.inl rfl) Try.results77 rfl ⟨p, c, [], rfl, by omega, by rw [ints_take]; exact hr.take n, slp p c n 1, c - n, fun L0 h => by rw [ints_drop]; exact h.slp c n (by rw [ints_len]; omega), by dsimp only; rw [List.length_drop]; omega, ?_⟩
    all_goals (unfold rdC; dsimp only; rw [List.length_drop]; rfl)
theorem Rd.take_get (r : Rd) (K : Nat) (h : r.Ok K) : By ((r.take 1).1.getD 0 0) := by
  have h1 := (Rd.take_by h 1).1
  have h2 := r.take_len 1
  rw [List.getD_eq_getElem?_getD, List.getElem?_eq_getElem (by omega)]
  exact h1 _ (List.getElem_mem _)
set_option maxHeartbeats 4000000 in
theorem xf_byte {W : World} {L : List Blk} (b : Nat) (p : Option Addr) (c : Nat) (r : Rd) (n : Nat) (hn : (r.take 1).1.getD 0 0 = n) (hr : Rs W L p (ints .u8 r.l)) (hc : r.l.length ≤ c) (hk : r.k + r.l.length ≤ 1000000000) :
    XF Try.prog W 78 #[.pointer (some ⟨b, 0, none⟩)] ((b, .cells (rdC p c r).toArray 130 (0, 0)) :: L) (fun v L' => v = .int .u8 n ∧ RdN W L b p r (r.take 1).2 L') := by
  refine xf_enter (args := [_]) Try.func78 rfl Try.ntmps78 rfl ?_
  focus
    refine xc_seq ?_
    refine xc_region ?_
    refine xo_rd (rd_assign rfl) rfl ?_
    refine xo_nil ?_
    refine xq_seq ?_
    refine xc_seq ?_
    refine xc_region ?_
    refine xo_rd (rd_move rfl) rfl ?_
    refine xo_ef rfl (ef_call rfl (XF.mono (xf_bts b p c r 1 hr hc hk (by decide)) ?_))
    rintro v L' ⟨q, k, l, rfl, hk1, hq, p', c', hs, hc', rfl⟩
  have hl1 := r.take_len 1
  obtain ⟨b1, o1, rfl, hc1⟩ := hq.int (i := 0) (by omega)
  have hc2 : ∀ z, Cl W (z :: (l ++ L)) b1 (o1 + Int.toNat 0 * 1) (.int .u8 n) := fun z => by
    have h1 : (r.take 1).1[0]'(by omega) = n := by rw [← hn, List.getD_eq_getElem?_getD, List.getElem?_eq_getElem (by omega)]; rfl
    rw [h1] at hc1
    exact hc1.mono fun y hy => List.mem_cons_of_mem _ hy
  focus
    refine xo_rd (rd_indexAddr rfl rfl (by omega) (by omega)) rfl ?_
    refine xo_rd (rd_load1 rfl (hc2 _)) rfl ?_
    refine xo_rd (rd_assign rfl) rfl ?_
    refine xo_nil ?_
    refine xq_seq ?_
    refine xc_ret ?_
  exact xq_sub (.cons_cons _ (List.sublist_append_right l L)) (xq_ret1 (.inl rfl) Try.results78 rfl ⟨rfl, p', c', hs, hc', rfl⟩)
set_option maxHeartbeats 4000000 in
theorem xf_rlong {W : World} {L : List Blk} (b : Nat) (p : Option Addr) (c : Nat) (r : Rd) (K : Nat) (ho : r.Ok K) (hK : K ≤ 1000000000) (hr : Rs W L p (ints .u8 r.l)) (hc : r.l.length ≤ c) :
    XF Try.prog W 55 #[.pointer (some ⟨b, 0, none⟩)] ((b, .cells (rdC p c r).toArray 130 (0, 0)) :: L) (fun v L' => v = .int .u32 (vl (r.take 4).1) ∧ RdN W L b p r (r.take 4).2 L') := by
  refine xf_enter (args := [_]) Try.func55 rfl Try.ntmps55 rfl ?_
  have hsz := ho.sz
  focus
    refine xc_seq ?_
    refine xc_region ?_
    refine xo_rd (rd_assign rfl) rfl ?_
    refine xo_nil ?_
    refine xq_seq ?_
    refine xc_seq ?_
    refine xc_seq ?_
    refine xc_region ?_
    refine xo_rd (rd_move rfl) rfl ?_
    refine xo_ef rfl (ef_call rfl (XF.mono (xf_bts b p c r 4 hr hc (by omega) (by decide)) ?_))
    rintro v L' ⟨q, k, l, rfl, hk1, hq, p', c', hs, hc', rfl⟩
    refine xo_rd (rd_len rfl) rfl ?_
    refine xo_rd (rd_move rfl) rfl ?_
    refine xo_nil ?_
    refine xq_seq ?_
    refine xc_block ?_
  have hl4 := r.take_len 4
  have hby := (Rd.take_by ho 4).1
  generalize hys : (r.take 4).1 = ys at *
  refine xc_loopI (ι := Nat × Int) (fun s => s.1 ≤ 4 ∧ s.2 = vl (ys.take s.1)) (fun s => 4 - s.1) (fun _ => (b, .cells (rdC p' c' (r.take 4).2).toArray 130 (0, 0)) :: (l ++ L)) (fun s => [(6, .slice q 4 k), (7, .int .i64 4), (2, .int .u32 s.2), (8, .int .i64 s.1)]) (0, 0) ⟨Nat.zero_le _, rfl⟩ rfl (by repeat (first | exact keep_nil | refine keep_cons rfl ?_)) ?_
  rintro ⟨i, v⟩ ⟨hi, hv⟩
  dsimp only at hi hv ⊢
  have hbd := vl_bd ys hby i (by omega)
  rw [← hv] at hbd
  by_cases hi4 : i < 4
  · obtain ⟨b1, o1, rfl, hc1⟩ := hq.int (i := i) (by omega)
    have hxk := hby ys[i] (List.getElem_mem _)
    unfold By at hxk
    have hp := pow_bd i (by omega)
    have hc2 : ∀ z, Cl W (z :: (l ++ L)) b1 (o1 + (i : Int).toNat * 1) (.int .u8 ys[i]) := fun z => by
      exact hc1.mono fun y hy => List.mem_cons_of_mem _ hy
    focus
      refine xc_seq ?_
      refine xc_region ?_
      refine xo_rd (rd_lss rfl rfl) rfl ?_
      refine xo_nil ?_
      refine xq_seq ?_
      refine xc_seq ?_
      refine xc_dec rfl (fun h1 => ?_) (fun h1 => (by exfalso; omega))
      refine xc_skip ?_
      refine xq_seq ?_
      refine xc_seq ?_
      refine xc_block ?_
      refine xc_seq ?_
      refine xc_region ?_
      refine xo_rd (rd_indexAddr rfl rfl (by omega) (by omega)) rfl ?_
      refine xo_rd (rd_load1 rfl (hc2 _)) rfl ?_
      refine xo_rd (rd_assign rfl) rfl ?_
      refine xo_nil ?_
      refine xq_seq ?_
      refine xc_region ?_
      refine xo_rd (rd_move rfl) rfl ?_
      refine xo_rd (rd_cast (v' := .int .u32 (v * 256)) (rd_shl rfl rfl (by decide) (by decide)) (congrArg (Value.int .u32) (KB.h _ (by show 0 ≤ v * 256; omega) (by show v * 256 ≤ _; omega)))) rfl ?_
      refine xo_rd (rd_move rfl) rfl ?_
      refine xo_rd (rd_convn rfl (by omega) (by omega)) rfl ?_
      refine xo_rd (rd_cast (v' := .int .u32 (v * 256 + ys[i])) (rd_or rfl rfl) (congrArg (Value.int .u32) (or32 v ys[i] (by omega) (by omega) (by omega) (by omega)))) rfl ?_
      refine xo_rd (rd_assign rfl) rfl ?_
      refine xo_nil ?_
      refine xq_block ?_
      refine xq_seq ?_
      refine xc_region ?_
      refine xo_rd (rd_addn rfl rfl (by omega) (by omega)) rfl ?_
      refine xo_rd (rd_move rfl) rfl ?_
      refine xo_nil ?_
    refine xq_roundI (i + 1, _) ⟨by dsimp only; omega, ?_⟩ (by dsimp only; omega) rfl (by repeat (first | exact keep_nil | refine keep_cons rfl ?_))
    dsimp only
    rw [vl_take ys i (by omega), hv]
  · have : i = 4 := by omega
    subst this
    focus
      refine xc_seq ?_
      refine xc_region ?_
      refine xo_rd (rd_lss rfl rfl) rfl ?_
      refine xo_nil ?_
      refine xq_seq ?_
      refine xc_seq ?_
      refine xc_condf rfl ?_
      refine xc_exit ?_
      refine xq_then_exit ?_
      refine xq_then_exit ?_
      refine xq_block_hit ?_
      refine xq_seq ?_
      refine xc_seq ?_
      refine xc_region ?_
      refine xo_rd (rd_move rfl) rfl ?_
      refine xo_rd (rd_assign rfl) rfl ?_
      refine xo_nil ?_
      refine xq_seq ?_
      refine xc_ret ?_
    rw [List.take_of_length_le (by omega)] at hv
    subst hv
    exact xq_sub (.cons_cons _ (List.sublist_append_right l L)) (xq_ret1 (.inl rfl) Try.results55 rfl ⟨rfl, p', c', hs, hc', rfl⟩)
def Rd.text (r : Rd) : List Int × Rd := (r.take 1).2.take ((r.take 1).1.getD 0 0).toNat
set_option maxHeartbeats 4000000 in
theorem xf_rtext {W : World} {L : List Blk} (b : Nat) (p : Option Addr) (c : Nat) (r : Rd) (K : Nat) (ho : r.Ok K) (hK : K ≤ 1000000000) (hr : Rs W L p (ints .u8 r.l)) (hc : r.l.length ≤ c) :
    XF Try.prog W 79 #[.pointer (some ⟨b, 0, none⟩)] ((b, .cells (rdC p c r).toArray 130 (0, 0)) :: L) (fun v L' => v = .string (strOfNums r.text.1) ∧ RdN W L b p r r.text.2 L') := by
  refine xf_enter (args := [_]) Try.func79 rfl Try.ntmps79 rfl ?_
  have hsz := ho.sz
  have hby := r.take_get K ho
  have ho2 := (Rd.take_by ho 1).2
  have hsz2 := ho2.sz
  unfold By at hby
  unfold Rd.text
  obtain ⟨n, hn⟩ : ∃ n : Nat, (r.take 1).1.getD 0 0 = n := ⟨((r.take 1).1.getD 0 0).toNat, by omega⟩
  rw [hn] at hby
  rw [hn, show (n : Int).toNat = n from rfl]
  have hl := (r.take 1).2.take_len n
  focus
    refine xc_seq ?_
    refine xc_region ?_
    refine xo_rd (rd_assign rfl) rfl ?_
    refine xo_nil ?_
    refine xq_seq ?_
    refine xc_seq ?_
    refine xc_region ?_
    refine xo_rd (rd_move rfl) rfl ?_
    refine xo_rd (rd_move rfl) rfl ?_
    refine xo_ef rfl (ef_call rfl (XF.mono (xf_byte b p c r n hn hr hc (by omega)) ?_))
    rintro v L' ⟨rfl, p', c', hs, hc', rfl⟩
    refine xo_rd (rd_convn rfl (by omega) (by omega)) rfl ?_
    refine xo_ef rfl (ef_call rfl (XF.mono (xf_bts b p' c' (r.take 1).2 n (hs _ hr) hc' (by omega) (by omega)) ?_))
    rintro v L' ⟨q, k, l, rfl, hk1, hq, p2, c2, hs2, hc2, rfl⟩
    refine xo_rd (rd_convStr (hq.mono fun y hy => List.mem_cons_of_mem _ hy) rfl hl) rfl ?_
    refine xo_rd (rd_assign rfl) rfl ?_
    refine xo_nil ?_
    refine xq_seq ?_
    refine xc_ret ?_
  exact xq_sub (.cons_cons _ (List.sublist_append_right l L)) (xq_ret1 (.inl rfl) Try.results79 rfl ⟨rfl, p2, c2, fun L0 h => hs2 L0 (hs L0 h), hc2, rfl⟩)
def Rd.fill (r : Rd) : Rd := (r.take ((4 - r.k % 4) % 4)).2
set_option maxHeartbeats 4000000 in
theorem xf_rfill {W : World} {L : List Blk} (b : Nat) (p : Option Addr) (c : Nat) (r : Rd) (K : Nat) (ho : r.Ok K) (hK : K ≤ 1000000000) (hr : Rs W L p (ints .u8 r.l)) (hc : r.l.length ≤ c) :
    XF Try.prog W 80 #[.pointer (some ⟨b, 0, none⟩)] ((b, .cells (rdC p c r).toArray 130 (0, 0)) :: L) (fun v L' => v = .tuple #[] ∧ RdN W L b p r r.fill L') := by
  refine xf_enter (args := [_]) Try.func80 rfl Try.ntmps80 rfl ?_
  have hsz := ho.sz
  have hld : ∀ R, Cl W ((b, .cells (rdC p c r).toArray 130 (0, 0)) :: R) b (0 + 1) (.int .i64 r.k) := fun R => Cl.o0 rfl
  focus
    refine xc_region ?_
    refine xo_rd (rd_move rfl) rfl ?_
    refine xo_rd (rd_move rfl) rfl ?_
    refine xo_rd (rd_nilCheck rfl) rfl ?_
    refine xo_rd (rd_fieldAddr rfl) rfl ?_
    refine xo_rd (rd_load1 rfl (hld _)) rfl ?_
    refine xo_rd (rd_cast (v' := .int .i64 (-(r.k : Int))) (rd_neg rfl) (congrArg (Value.int .i64) (KB.h _ (by omega) (by omega)))) rfl ?_
    refine xo_rd (rd_cast (v' := .int .i64 (((4 - r.k % 4) % 4 : Nat) : Int)) (rd_and rfl rfl) (congrArg (Value.int .i64) (and64_3 r.k (by omega)))) rfl ?_
    refine xo_ef rfl (ef_call rfl (XF.mono (xf_bts b p c r ((4 - r.k % 4) % 4) hr hc (by omega) (by omega)) ?_))
    rintro v L' ⟨q, k, l, rfl, hk1, hq, p2, c2, hs2, hc2, rfl⟩
    refine xo_nil ?_
  exact xq_sub (.cons_cons _ (List.sublist_append_right l L)) (xq_ret0 (.inr rfl) Try.results80 ⟨rfl, p2, c2, hs2, hc2, rfl⟩)
/-- The error of a packet that was read. -/
def toldE (q : Pc) (r : Rd) (kind : Int) (whole : Bool) : Int := if q.kd ≠ kind then 62 else if r.bad = true ∨ (whole = true ∧ 0 < r.l.length) then 63 else 0
set_option maxHeartbeats 4000000 in
theorem xf_told {W : World} {L : List Blk} (b : Nat) (p : Option Addr) (c : Nat) (r : Rd) (x : Pb) (kind : Int) (whole : Bool) :
    XF Try.prog W 57 #[.pointer (some ⟨b, 0, none⟩), .agg x.enc.toArray, .int .u8 kind, .bool whole] ((b, .cells (rdC p c r).toArray 130 (0, 0)) :: L) (fun v L' => v = .int .i64 (toldE x.q r kind whole) ∧ L' = (b, .cells (rdC p c r).toArray 130 (0, 0)) :: L) := by
  refine xf_enter (args := [_, _, _, _]) Try.func57 rfl Try.ntmps57 rfl ?_
  obtain ⟨⟨ct, kd, bd, pd⟩, xp, xc, xl⟩ := x
  obtain ⟨rl, rk, bad⟩ := r
  unfold rdC Pb.enc Pc.enc toldE
  dsimp only
  by_cases hkd : kd = kind
  · rw [if_neg (by simpa using hkd)]
    cases bad with
    | true =>
      rw [if_pos (.inl rfl)]
      focus
        refine xc_seq ?_
        refine xc_region ?_
        refine xo_ef rfl (ef_box rfl fun r5 => ?_)
        refine xo_rd (rd_assign rfl) rfl ?_
        refine xo_nil ?_
        refine xq_seq ?_
        refine xc_seq ?_
        refine xc_block ?_
        refine xc_seq ?_
        refine xc_region ?_
        refine xo_rd (rd_fieldAddr rfl) rfl ?_
        refine xo_rd (rd_load1 rfl (Cl.o0 rfl)) rfl ?_
        refine xo_rd (rd_move rfl) rfl ?_
        refine xo_rd (rd_neq rfl rfl) rfl ?_
        refine xo_rd (rd_assign rfl) rfl ?_
        refine xo_nil ?_
        refine xq_seq ?_
        refine xc_ndec rfl (fun h1 => (by exfalso; omega)) (fun h1 => ?_)
        refine xc_seq ?_
        refine xc_seq ?_
        refine xc_region ?_
        refine xo_rd (rd_move rfl) rfl ?_
        refine xo_rd (rd_nilCheck rfl) rfl ?_
        refine xo_rd (rd_fieldAddr rfl) rfl ?_
        refine xo_rd (rd_load1 rfl (Cl.o1 rfl)) rfl ?_
        refine xo_rd (rd_assign rfl) rfl ?_
        refine xo_nil ?_
        refine xq_seq ?_
        refine xc_condt rfl ?_
        refine xc_skip ?_
        refine xq_seq ?_
        refine xc_condt rfl ?_
        refine xc_seq ?_
        refine xc_region ?_
        refine xo_rd (rd_assign rfl) rfl ?_
        refine xo_nil ?_
        refine xq_seq ?_
        refine xc_ret ?_
        refine xq_block_ret ?_
        refine xq_then_ret ?_
      exact xq_tail (xq_ret1 (.inl rfl) Try.results57 rfl ⟨rfl, rfl⟩)
    | false =>
      cases whole with
      | false =>
        rw [if_neg (by simp)]
        focus
          refine xc_seq ?_
          refine xc_region ?_
          refine xo_ef rfl (ef_box rfl fun r5 => ?_)
          refine xo_rd (rd_assign rfl) rfl ?_
          refine xo_nil ?_
          refine xq_seq ?_
          refine xc_seq ?_
          refine xc_block ?_
          refine xc_seq ?_
          refine xc_region ?_
          refine xo_rd (rd_fieldAddr rfl) rfl ?_
          refine xo_rd (rd_load1 rfl (Cl.o0 rfl)) rfl ?_
          refine xo_rd (rd_move rfl) rfl ?_
          refine xo_rd (rd_neq rfl rfl) rfl ?_
          refine xo_rd (rd_assign rfl) rfl ?_
          refine xo_nil ?_
          refine xq_seq ?_
          refine xc_ndec rfl (fun h1 => (by exfalso; omega)) (fun h1 => ?_)
          refine xc_seq ?_
          refine xc_seq ?_
          refine xc_region ?_
          refine xo_rd (rd_move rfl) rfl ?_
          refine xo_rd (rd_nilCheck rfl) rfl ?_
          refine xo_rd (rd_fieldAddr rfl) rfl ?_
          refine xo_rd (rd_load1 rfl (Cl.o1 rfl)) rfl ?_
          refine xo_rd (rd_assign rfl) rfl ?_
          refine xo_nil ?_
          refine xq_seq ?_
          refine xc_condf rfl ?_
          refine xc_region ?_
          refine xo_rd (rd_move rfl) rfl ?_
          refine xo_rd (rd_move rfl) rfl ?_
          refine xo_gskip rfl rfl rfl rfl ?_
          refine xo_gskip rfl rfl rfl rfl ?_
          refine xo_gskip rfl rfl rfl rfl ?_
          refine xo_gskip rfl rfl rfl rfl ?_
          refine xo_gskip rfl rfl rfl rfl ?_
          refine xo_gskip rfl rfl rfl rfl ?_
          refine xo_rd (rd_pickf rfl rfl) rfl ?_
          refine xo_rd (rd_assign rfl) rfl ?_
          refine xo_nil ?_
          refine xq_seq ?_
          refine xc_condf rfl ?_
          refine xc_skip ?_
          refine xq_block ?_
          refine xq_seq ?_
          refine xc_seq ?_
          refine xc_region ?_
          refine xo_rd (rd_assign rfl) rfl ?_
          refine xo_nil ?_
          refine xq_seq ?_
          refine xc_ret ?_
        exact xq_tail (xq_ret1 (.inl rfl) Try.results57 rfl ⟨rfl, rfl⟩)
      | true =>
        by_cases h0 : 0 < rl.length
        · rw [if_pos (.inr ⟨rfl, h0⟩)]
          focus
            refine xc_seq ?_
            refine xc_region ?_
            refine xo_ef rfl (ef_box rfl fun r5 => ?_)
            refine xo_rd (rd_assign rfl) rfl ?_
            refine xo_nil ?_
            refine xq_seq ?_
            refine xc_seq ?_
            refine xc_block ?_
            refine xc_seq ?_
            refine xc_region ?_
            refine xo_rd (rd_fieldAddr rfl) rfl ?_
            refine xo_rd (rd_load1 rfl (Cl.o0 rfl)) rfl ?_
            refine xo_rd (rd_move rfl) rfl ?_
            refine xo_rd (rd_neq rfl rfl) rfl ?_
            refine xo_rd (rd_assign rfl) rfl ?_
            refine xo_nil ?_
            refine xq_seq ?_
            refine xc_ndec rfl (fun h1 => (by exfalso; omega)) (fun h1 => ?_)
            refine xc_seq ?_
            refine xc_seq ?_
            refine xc_region ?_
            refine xo_rd (rd_move rfl) rfl ?_
            refine xo_rd (rd_nilCheck rfl) rfl ?_
            refine xo_rd (rd_fieldAddr rfl) rfl ?_
            refine xo_rd (rd_load1 rfl (Cl.o1 rfl)) rfl ?_
            refine xo_rd (rd_assign rfl) rfl ?_
            refine xo_nil ?_
            refine xq_seq ?_
            refine xc_condf rfl ?_
            refine xc_region ?_
            refine xo_rd (rd_move rfl) rfl ?_
            refine xo_rd (rd_move rfl) rfl ?_
            refine xo_grd rfl rfl (rd_move rfl) rfl ?_
            refine xo_grd rfl rfl (rd_nilCheck rfl) rfl ?_
            refine xo_grd rfl rfl (rd_fieldAddr rfl) rfl ?_
            refine xo_grd rfl rfl (rd_load1 rfl (Cl.o1 rfl)) rfl ?_
            refine xo_grd rfl rfl (rd_len rfl) rfl ?_
            refine xo_grd rfl rfl (rd_gtr rfl rfl) rfl ?_
            refine xo_rd (rd_pickt rfl rfl) rfl ?_
            refine xo_rd (rd_assign rfl) rfl ?_
            refine xo_nil ?_
            refine xq_seq ?_
            refine xc_dec rfl (fun h2 => ?_) (fun h2 => (by exfalso; omega))
            refine xc_seq ?_
            refine xc_region ?_
            refine xo_rd (rd_assign rfl) rfl ?_
            refine xo_nil ?_
            refine xq_seq ?_
            refine xc_ret ?_
            refine xq_block_ret ?_
            refine xq_then_ret ?_
          exact xq_tail (xq_ret1 (.inl rfl) Try.results57 rfl ⟨rfl, rfl⟩)
        · rw [if_neg (by simpa using h0)]
          focus
            refine xc_seq ?_
            refine xc_region ?_
            refine xo_ef rfl (ef_box rfl fun r5 => ?_)
            refine xo_rd (rd_assign rfl) rfl ?_
            refine xo_nil ?_
            refine xq_seq ?_
            refine xc_seq ?_
            refine xc_block ?_
            refine xc_seq ?_
            refine xc_region ?_
            refine xo_rd (rd_fieldAddr rfl) rfl ?_
            refine xo_rd (rd_load1 rfl (Cl.o0 rfl)) rfl ?_
            refine xo_rd (rd_move rfl) rfl ?_
            refine xo_rd (rd_neq rfl rfl) rfl ?_
            refine xo_rd (rd_assign rfl) rfl ?_
            refine xo_nil ?_
            refine xq_seq ?_
            refine xc_ndec rfl (fun h1 => (by exfalso; omega)) (fun h1 => ?_)
            refine xc_seq ?_
            refine xc_seq ?_
            refine xc_region ?_
            refine xo_rd (rd_move rfl) rfl ?_
            refine xo_rd (rd_nilCheck rfl) rfl ?_
            refine xo_rd (rd_fieldAddr rfl) rfl ?_
            refine xo_rd (rd_load1 rfl (Cl.o1 rfl)) rfl ?_
            refine xo_rd (rd_assign rfl) rfl ?_
            refine xo_nil ?_
            refine xq_seq ?_
            refine xc_condf rfl ?_
            refine xc_region ?_
            refine xo_rd (rd_move rfl) rfl ?_
            refine xo_rd (rd_move rfl) rfl ?_
            refine xo_grd rfl rfl (rd_move rfl) rfl ?_
            refine xo_grd rfl rfl (rd_nilCheck rfl) rfl ?_
            refine xo_grd rfl rfl (rd_fieldAddr rfl) rfl ?_
            refine xo_grd rfl rfl (rd_load1 rfl (Cl.o1 rfl)) rfl ?_
            refine xo_grd rfl rfl (rd_len rfl) rfl ?_
            refine xo_grd rfl rfl (rd_gtr rfl rfl) rfl ?_
            refine xo_rd (rd_pickt rfl rfl) rfl ?_
            refine xo_rd (rd_assign rfl) rfl ?_
            refine xo_nil ?_
            refine xq_seq ?_
            refine xc_dec rfl (fun h2 => (by exfalso; omega)) (fun h2 => ?_)
            refine xc_skip ?_
            refine xq_block ?_
            refine xq_seq ?_
            refine xc_seq ?_
            refine xc_region ?_
            refine xo_rd (rd_assign rfl) rfl ?_
            refine xo_nil ?_
            refine xq_seq ?_
            refine xc_ret ?_
          exact xq_tail (xq_ret1 (.inl rfl) Try.results57 rfl ⟨rfl, rfl⟩)
  · rw [if_pos hkd]
    focus
      refine xc_seq ?_
      refine xc_region ?_
      refine xo_ef rfl (ef_box rfl fun r5 => ?_)
      refine xo_rd (rd_assign rfl) rfl ?_
      refine xo_nil ?_
      refine xq_seq ?_
      refine xc_seq ?_
      refine xc_block ?_
      refine xc_seq ?_
      refine xc_region ?_
      refine xo_rd (rd_fieldAddr rfl) rfl ?_
      refine xo_rd (rd_load1 rfl (Cl.o0 rfl)) rfl ?_
      refine xo_rd (rd_move rfl) rfl ?_
      refine xo_rd (rd_neq rfl rfl) rfl ?_
      refine xo_rd (rd_assign rfl) rfl ?_
      refine xo_nil ?_
      refine xq_seq ?_
      refine xc_ndec rfl (fun h1 => ?_) (fun h1 => (by exfalso; omega))
      refine xc_seq ?_
      refine xc_region ?_
      refine xo_rd (rd_assign rfl) rfl ?_
      refine xo_nil ?_
      refine xq_seq ?_
      refine xc_ret ?_
      refine xq_block_ret ?_
      refine xq_then_ret ?_
    exact xq_tail (xq_ret1 (.inl rfl) Try.results57 rfl ⟨rfl, rfl⟩)
end Go.Proofs.Ytogilblilljpmaa.X
/-
  The reader of a body: blocks, chunks; walks of my own.
-/
namespace Go.Proofs.Ytogilblilljpmaa.X
open Go Go.RowKit
set_option linter.unusedVariables false
set_option linter.unusedSimpArgs false
/-- A block that holds a reader, whose bytes lie in L0 (or in the base world). -/
def RdB (W : World) (L0 : List Blk) (r : Rd) (o : Obj) : Prop := ∃ p c, o = .cells (rdC p c r).toArray 130 (0, 0) ∧ r.l.length ≤ c ∧ Rs W L0 p (ints .u8 r.l) ∧ r.Ok 1000000000
theorem RdB.ok {W : World} {L0 : List Blk} {r : Rd} {o : Obj} (h : RdB W L0 r o) : r.Ok 1000000000 := by obtain ⟨p, c, _, _, _, h⟩ := h; exact h
theorem xr_byte {W : World} {L L0 : List Blk} (b : Nat) {o : Obj} {r : Rd} (h : RdB W L0 r o) (hs : ∀ z, z ∈ L0 → z ∈ L) :
    XF Try.prog W 78 #[.pointer (some ⟨b, 0, none⟩)] ((b, o) :: L) (fun v L' => v = .int .u8 ((r.take 1).1.getD 0 0) ∧ ∃ o', RdB W L0 (r.take 1).2 o' ∧ L' = (b, o') :: L) := by
  obtain ⟨p, c, rfl, hc, hr, ho⟩ := h
  have hby := r.take_get _ ho
  unfold By at hby
  obtain ⟨n, hn⟩ : ∃ n : Nat, (r.take 1).1.getD 0 0 = n := ⟨((r.take 1).1.getD 0 0).toNat, by omega⟩
  have hsz := ho.sz
  refine (xf_byte b p c r n hn (hr.mono hs) hc (by omega)).mono ?_
  rintro v L' ⟨rfl, p', c', h1, h2, rfl⟩
  exact ⟨by rw [hn], _, ⟨p', c', rfl, h2, h1 _ hr, (Rd.take_by ho 1).2⟩, rfl⟩
theorem xr_long {W : World} {L L0 : List Blk} (b : Nat) {o : Obj} {r : Rd} (h : RdB W L0 r o) (hs : ∀ z, z ∈ L0 → z ∈ L) :
    XF Try.prog W 55 #[.pointer (some ⟨b, 0, none⟩)] ((b, o) :: L) (fun v L' => v = .int .u32 (vl (r.take 4).1) ∧ ∃ o', RdB W L0 (r.take 4).2 o' ∧ L' = (b, o') :: L) := by
  obtain ⟨p, c, rfl, hc, hr, ho⟩ := h
  refine (xf_rlong b p c r _ ho (by decide) (hr.mono hs) hc).mono ?_
  rintro v L' ⟨rfl, p', c', h1, h2, rfl⟩
  exact ⟨rfl, _, ⟨p', c', rfl, h2, h1 _ hr, (Rd.take_by ho 4).2⟩, rfl⟩
theorem Rd.text_ok {r : Rd} {K : Nat} (h : r.Ok K) : r.text.2.Ok K := (Rd.take_by (Rd.take_by h 1).2 _).2
theorem Rd.fill_ok {r : Rd} {K : Nat} (h : r.Ok K) : r.fill.Ok K := (Rd.take_by h _).2
theorem xr_text {W : World} {L L0 : List Blk} (b : Nat) {o : Obj} {r : Rd} (h : RdB W L0 r o) (hs : ∀ z, z ∈ L0 → z ∈ L) :
    XF Try.prog W 79 #[.pointer (some ⟨b, 0, none⟩)] ((b, o) :: L) (fun v L' => v = .string (strOfNums r.text.1) ∧ ∃ o', RdB W L0 r.text.2 o' ∧ L' = (b, o') :: L) := by
  obtain ⟨p, c, rfl, hc, hr, ho⟩ := h
  refine (xf_rtext b p c r _ ho (by decide) (hr.mono hs) hc).mono ?_
  rintro v L' ⟨rfl, p', c', h1, h2, rfl⟩
  exact ⟨rfl, _, ⟨p', c', rfl, h2, h1 _ hr, Rd.text_ok ho⟩, rfl⟩
theorem xr_fill {W : World} {L L0 : List Blk} (b : Nat) {o : Obj} {r : Rd} (h : RdB W L0 r o) (hs : ∀ z, z ∈ L0 → z ∈ L) :
    XF Try.prog W 80 #[.pointer (some ⟨b, 0, none⟩)] ((b, o) :: L) (fun v L' => v = .tuple #[] ∧ ∃ o', RdB W L0 r.fill o' ∧ L' = (b, o') :: L) := by
  obtain ⟨p, c, rfl, hc, hr, ho⟩ := h
  refine (xf_rfill b p c r _ ho (by decide) (hr.mono hs) hc).mono ?_
  rintro v L' ⟨rfl, p', c', h1, h2, rfl⟩
  exact ⟨rfl, _, ⟨p', c', rfl, h2, h1 _ hr, Rd.fill_ok ho⟩, rfl⟩
theorem xr_told {W : World} {L L0 : List Blk} (b : Nat) {o : Obj} {r : Rd} (h : RdB W L0 r o) (x : Pb) (kind : Int) (whole : Bool) :
    XF Try.prog W 57 #[.pointer (some ⟨b, 0, none⟩), .agg x.enc.toArray, .int .u8 kind, .bool whole] ((b, o) :: L) (fun v L' => v = .int .i64 (toldE x.q r kind whole) ∧ L' = (b, o) :: L) := by
  obtain ⟨p, c, rfl, hc, hr, ho⟩ := h
  exact xf_told b p c r x kind whole
def to24 (v : Int) : Int := IntKind.i32.wrap (IntKind.u32.wrap (v * 256)) / 256
def Rd.blk (r : Rd) : Bk × Rd :=
  (⟨vl (r.take 4).1, vl ((r.take 4).2.take 4).1 / 16777216, to24 (vl ((r.take 4).2.take 4).1), vl (((r.take 4).2.take 4).2.take 4).1, vl ((((r.take 4).2.take 4).2.take 4).2.take 4).1, vl (((((r.take 4).2.take 4).2.take 4).2.take 4).2.take 4).1, vl ((((((r.take 4).2.take 4).2.take 4).2.take 4).2.take 4).2.take 4).1⟩,
    ((((((r.take 4).2.take 4).2.take 4).2.take 4).2.take 4).2.take 4).2)
def Rd.blks : Nat → Rd → List Bk × Rd
  | 0, r => ([], r)
  | n + 1, r => (r.blk.1 :: (Rd.blks n r.blk.2).1, (Rd.blks n r.blk.2).2)
theorem Rd.blks_len : ∀ (n : Nat) (r : Rd), (Rd.blks n r).1.length = n
  | 0, _ => rfl
  | n + 1, r => by rw [Rd.blks, List.length_cons, Rd.blks_len n]
theorem Rd.vl_u4 {r : Rd} {K : Nat} (h : r.Ok K) : U4 (vl (r.take 4).1) := X.vl_u4 _ (Rd.take_by h 4).1 (by rw [r.take_len]; exact Nat.le_refl _)
structure BlS where
  i : Nat
  ys : List Bk
  r : Rd
  o : Obj
  s : Option Addr
  k : Nat
  l : List Blk
set_option maxHeartbeats 4000000 in
theorem xr_blocks {W : World} {L L0 : List Blk} (b : Nat) {o : Obj} {r : Rd} (n : Nat) (hn : n ≤ 255) (h : RdB W L0 r o) (hs : ∀ z, z ∈ L0 → z ∈ L) :
    XF Try.prog W 56 #[.pointer (some ⟨b, 0, none⟩), .int .u8 n] ((b, o) :: L) (fun v L' => ∃ s k l o', v = .slice s n k ∧ SlO 7 30 (.slice s n k) n ((Rd.blks n r).1.flatMap Bk.enc) l ∧ RdB W L0 (Rd.blks n r).2 o' ∧ L' = (b, o') :: (l ++ L)) := by
  refine xf_enter (args := [_, _]) Try.func56 rfl Try.ntmps56 rfl ?_
  focus
    refine xc_seq ?_
    refine xc_region ?_
    refine xo_rd (rd_assign rfl) rfl ?_
    refine xo_nil ?_
    refine xq_seq ?_
    refine xc_seq ?_
    refine xc_seq ?_
    refine xc_region ?_
    refine xo_rd (rd_move rfl) rfl ?_
    refine xo_rd (rd_move rfl) rfl ?_
    refine xo_nil ?_
    refine xq_seq ?_
    refine xc_block ?_
  refine xc_loopI (ι := BlS) (fun z => z.i ≤ n ∧ z.ys.length = z.i ∧ RdB W L0 z.r z.o ∧ Rd.blks n r = (z.ys ++ (Rd.blks (n - z.i) z.r).1, (Rd.blks (n - z.i) z.r).2) ∧ SlO 7 30 (.slice z.s z.i z.k) z.i (z.ys.flatMap Bk.enc) z.l) (fun z => n - z.i) (fun z => (b, z.o) :: (z.l ++ L)) (fun z => [(0, .pointer (some ⟨b, 0, none⟩)), (7, .int .u8 n), (8, .int .u8 z.i), (4, .slice z.s z.i z.k)]) ⟨0, [], r, o, none, 0, []⟩ ⟨Nat.zero_le _, rfl, h, rfl, SlO.nil⟩ rfl (by repeat (first | exact keep_nil | refine keep_cons rfl ?_)) ?_
  rintro ⟨i, ys, r1, o1, s, k, l⟩ ⟨hi, hyl, hB, heq, hO⟩
  dsimp only at hi hyl hB heq hO ⊢
  by_cases hin : i < n
  · have e1 : Rd.blks (n - i) r1 = (r1.blk.1 :: (Rd.blks (n - (i + 1)) r1.blk.2).1, (Rd.blks (n - (i + 1)) r1.blk.2).2) := by
      obtain ⟨m, hm⟩ : ∃ m, n - i = m + 1 := ⟨n - i - 1, by omega⟩
      rw [hm, show n - (i + 1) = m from by omega]; rfl
    rw [e1] at heq
    have hu := Rd.vl_u4 (Rd.take_by hB.ok 4).2
    unfold U4 at hu
    generalize hv : vl ((r1.take 4).2.take 4).1 = v at *
    focus
      refine xc_seq ?_
      refine xc_region ?_
      refine xo_rd (rd_lss rfl rfl) rfl ?_
      refine xo_nil ?_
      refine xq_seq ?_
      refine xc_seq ?_
      refine xc_dec rfl (fun h1 => ?_) (fun h1 => (by exfalso; omega))
      refine xc_skip ?_
      refine xq_seq ?_
      refine xc_seq ?_
      refine xc_block ?_
      refine xc_seq ?_
      refine xc_region ?_
      refine xo_rd (rd_move rfl) rfl ?_
      refine xo_ef rfl (ef_call rfl (XF.mono (xr_long _ (by assumption) (fun z hz => by simp [hs z hz])) ?_))
      rintro v L' ⟨rfl, o2, ho2, rfl⟩
      refine xo_rd (rd_build rfl rfl rfl) rfl ?_
      refine xo_ef rfl (ef_alloc fun r5 => ?_)
      refine xo_ef rfl (ef_storeB [] _ rfl rfl (by first | rfl | assumption) rfl rfl rfl ?_)
      refine xo_nil ?_
      refine xq_seq ?_
      refine xc_seq ?_
      refine xc_region ?_
      refine xo_rd (rd_move rfl) rfl ?_
      refine xo_ef rfl (ef_call rfl (XF.mono (XF.mid [_] (xr_long _ (by assumption) (fun z hz => by simp [hs z hz]))) ?_))
      rintro v L' ⟨rfl, o2, ho2, rfl⟩
      refine xo_mid [_] ?_
      refine xo_rd (rd_assign rfl) rfl ?_
      refine xo_nil ?_
      refine xq_seq ?_
    rw [hv]
    have hblk : r1.blk.1 = ⟨vl (r1.take 4).1, v / 16777216, to24 v, vl (((r1.take 4).2.take 4).2.take 4).1, vl ((((r1.take 4).2.take 4).2.take 4).2.take 4).1, vl (((((r1.take 4).2.take 4).2.take 4).2.take 4).2.take 4).1, vl ((((((r1.take 4).2.take 4).2.take 4).2.take 4).2.take 4).2.take 4).1⟩ := by rw [← hv]; rfl
    focus
      refine xc_seq ?_
      refine xc_region ?_
      refine xo_rd (rd_move rfl) rfl ?_
      refine xo_rd (rd_shr rfl rfl (by decide) (by decide)) rfl ?_
      refine xo_rd (rd_cast (v' := .int .u8 (v / 16777216)) (rd_conv rfl) (congrArg (Value.int .u8) (KB.h (v / 16777216) (by omega) (by omega)))) rfl ?_
      refine xo_rd (rd_move rfl) rfl ?_
      refine xo_rd (rd_shl rfl rfl (by decide) (by decide)) rfl ?_
      refine xo_rd (rd_conv rfl) rfl ?_
      refine xo_rd (rd_cast (v' := .int .i32 (to24 v)) (rd_shr rfl rfl (by decide) (by decide)) rfl) rfl ?_
      refine xo_rd (rd_fieldAddr rfl) rfl ?_
      refine xo_ef rfl (ef_store1 [] _ rfl rfl (by first | rfl | assumption) rfl rfl rfl ?_)
      refine xo_rd (rd_fieldAddr rfl) rfl ?_
      refine xo_ef rfl (ef_store1 [] _ rfl rfl (by first | rfl | assumption) rfl rfl rfl ?_)
      refine xo_nil ?_
      refine xq_seq ?_
      refine xc_seq ?_
      refine xc_region ?_
      refine xo_rd (rd_move rfl) rfl ?_
      refine xo_ef rfl (ef_call rfl (XF.mono (XF.mid [_] (xr_long _ (by assumption) (fun z hz => by simp [hs z hz]))) ?_))
      rintro v L' ⟨rfl, o2, ho2, rfl⟩
      refine xo_mid [_] ?_
      refine xo_rd (rd_move rfl) rfl ?_
      refine xo_ef rfl (ef_call rfl (XF.mono (XF.mid [_] (xr_long _ (by assumption) (fun z hz => by simp [hs z hz]))) ?_))
      rintro v L' ⟨rfl, o2, ho2, rfl⟩
      refine xo_mid [_] ?_
      refine xo_rd (rd_move rfl) rfl ?_
      refine xo_ef rfl (ef_call rfl (XF.mono (XF.mid [_] (xr_long _ (by assumption) (fun z hz => by simp [hs z hz]))) ?_))
      rintro v L' ⟨rfl, o2, ho2, rfl⟩
      refine xo_mid [_] ?_
      refine xo_rd (rd_move rfl) rfl ?_
      refine xo_ef rfl (ef_call rfl (XF.mono (XF.mid [_] (xr_long _ (by assumption) (fun z hz => by simp [hs z hz]))) ?_))
      rintro v L' ⟨rfl, o2, ho2, rfl⟩
      refine xo_mid [_] ?_
      refine xo_rd (rd_fieldAddr rfl) rfl ?_
      refine xo_ef rfl (ef_store1 [] _ rfl rfl (by first | rfl | assumption) rfl rfl rfl ?_)
      refine xo_rd (rd_fieldAddr rfl) rfl ?_
      refine xo_ef rfl (ef_store1 [] _ rfl rfl (by first | rfl | assumption) rfl rfl rfl ?_)
      refine xo_rd (rd_fieldAddr rfl) rfl ?_
      refine xo_ef rfl (ef_store1 [] _ rfl rfl (by first | rfl | assumption) rfl rfl rfl ?_)
      refine xo_rd (rd_fieldAddr rfl) rfl ?_
      refine xo_ef rfl (ef_store1 [] _ rfl rfl (by first | rfl | assumption) rfl rfl rfl ?_)
      refine xo_nil ?_
      refine xq_seq ?_
      refine xc_region ?_
      refine xo_rd (rd_move rfl) rfl ?_
      refine xo_rd (rd_loadB rfl Kn.o0 (by rfl)) rfl ?_
      refine xo_ef rfl (ef_sliceA (vs := Bk.enc ⟨vl (r1.take 4).1, v / 16777216, to24 v, vl (((r1.take 4).2.take 4).2.take 4).1, vl ((((r1.take 4).2.take 4).2.take 4).2.take 4).1, vl (((((r1.take 4).2.take 4).2.take 4).2.take 4).2.take 4).1, vl ((((((r1.take 4).2.take 4).2.take 4).2.take 4).2.take 4).2.take 4).1⟩) rfl rfl (by rw [Bk.len]; decide) (by rw [Bk.len]; decide) fun r38 => ?_)
      refine xo_ef rfl (ef_appendS [_, _, _] L l (news := Bk.enc ⟨vl (r1.take 4).1, v / 16777216, to24 v, vl (((r1.take 4).2.take 4).2.take 4).1, vl ((((r1.take 4).2.take 4).2.take 4).2.take 4).1, vl (((((r1.take 4).2.take 4).2.take 4).2.take 4).2.take 4).1, vl ((((((r1.take 4).2.take 4).2.take 4).2.take 4).2.take 4).2.take 4).1⟩) rfl rfl hO rfl (Rs.fresh (List.Mem.head _)) rfl rfl (by decide) (by omega) (by omega) fun s' k' l' hO' hk' => ?_)
      refine xo_rd (rd_assign rfl) rfl ?_
      refine xo_nil ?_
      refine xq_block ?_
      refine xq_seq ?_
      refine xc_region ?_
      refine xo_rd (rd_addn rfl rfl (by omega) (by omega)) rfl ?_
      refine xo_rd (rd_move rfl) rfl ?_
      refine xo_nil ?_
    refine xq_tail (xq_tail (xq_roundI (⟨i + 1, ys ++ [r1.blk.1], r1.blk.2, _, s', k', l'⟩ : BlS) ⟨by dsimp only; omega, by simp [hyl], by assumption, ?_, ?_⟩ (by dsimp only; omega) rfl (by repeat (first | exact keep_nil | refine keep_cons rfl ?_))))
    · rw [heq]; simp only [List.append_assoc, List.singleton_append]
    · dsimp only
      rw [List.flatMap_append, List.flatMap_singleton, hblk]
      exact hO'
  · obtain rfl : i = n := by omega
    rw [Nat.sub_self] at heq
    rw [heq]
    focus
      refine xc_seq ?_
      refine xc_region ?_
      refine xo_rd (rd_lss rfl rfl) rfl ?_
      refine xo_nil ?_
      refine xq_seq ?_
      refine xc_seq ?_
      refine xc_dec rfl (fun h1 => (by exfalso; omega)) (fun h1 => ?_)
      refine xc_exit ?_
      refine xq_then_exit ?_
      refine xq_then_exit ?_
      refine xq_block_hit ?_
      refine xq_seq ?_
      refine xc_seq ?_
      refine xc_region ?_
      refine xo_rd (rd_move rfl) rfl ?_
      refine xo_rd (rd_assign rfl) rfl ?_
      refine xo_nil ?_
      refine xq_seq ?_
      refine xc_ret ?_
    exact xq_ret1 (.inl rfl) Try.results56 rfl ⟨s, k, l, o1, rfl, by rw [show ys ++ (Rd.blks 0 r1).1 = ys from List.append_nil _]; exact hO, hB, rfl⟩
/-- How far a reader may still go. -/
def Rd.m (r : Rd) : Nat := if r.bad = true then 0 else r.l.length + 1
theorem Rd.m_take (r : Rd) (n : Nat) : (r.take n).2.m ≤ r.m := by
  by_cases h : r.bad = true ∨ r.l.length < n
  · rw [Rd.take_bad h]; exact Nat.zero_le _
  · rw [Rd.take_ok h]
    have hb : r.bad = false := by
      cases hb : r.bad
      · rfl
      · exact absurd (.inl hb) h
    unfold Rd.m
    dsimp only
    rw [if_neg (by decide), hb, if_neg (by decide), List.length_drop]
    omega
theorem Rd.m_take1 (r : Rd) (hb : r.bad = false) : (r.take 1).2.m < r.m := by
  by_cases h : r.bad = true ∨ r.l.length < 1
  · rw [Rd.take_bad h]; unfold Rd.m; rw [if_pos rfl, hb, if_neg (by decide)]; omega
  · rw [Rd.take_ok h]
    unfold Rd.m
    dsimp only
    rw [if_neg (by decide), hb, if_neg (by decide), List.length_drop]
    omega
theorem Rd.m_text (r : Rd) (hb : r.bad = false) : (r.text.2.take 1).2.m < r.m :=
  Nat.lt_of_le_of_lt (Rd.m_take _ 1) (Nat.lt_of_le_of_lt (Rd.m_take _ _) (r.m_take1 hb))
/-- A chunk's items: the name that they tell. -/
def Rd.items : Nat → Rd → Int → Bool → List Int → List Int × Rd
  | 0, r, _, _, nm => (nm, r)
  | K + 1, r, sort, named, nm => if sort ≠ 0 ∧ r.bad = false then Rd.items K (r.text.2.take 1).2 ((r.text.2.take 1).1.getD 0 0) (named || decide (sort = 1)) (if sort = 1 ∧ named = false then r.text.1 else nm) else (nm, r)
def Rd.itm (r : Rd) : List Int × Rd := Rd.items ((r.take 4).2.l.length + 1) ((r.take 4).2.take 1).2 (((r.take 4).2.take 1).1.getD 0 0) false []
def Rd.chunk (r : Rd) : Ck × Rd := (⟨vl (r.take 4).1, strOfNums r.itm.1⟩, r.itm.2.fill)
structure ItS where
  K : Nat
  r : Rd
  so : Int
  nd : Bool
  nm : List Int
  o : Obj
set_option maxHeartbeats 4000000 in
theorem xr_chunk {W : World} {L L0 : List Blk} (b : Nat) {o : Obj} {r : Rd} (h : RdB W L0 r o) (hs : ∀ z, z ∈ L0 → z ∈ L) :
    XF Try.prog W 58 #[.pointer (some ⟨b, 0, none⟩)] ((b, o) :: L) (fun v L' => v = .agg r.chunk.1.enc.toArray ∧ ∃ o', RdB W L0 r.chunk.2 o' ∧ L' = (b, o') :: L) := by
  refine xf_enter (args := [_]) Try.func58 rfl Try.ntmps58 rfl ?_
  unfold Rd.chunk Rd.itm
  focus
    refine xc_seq ?_
    refine xc_region ?_
    refine xo_ef rfl (ef_alloc fun r2 => ?_)
    refine xo_nil ?_
    refine xq_seq ?_
    refine xc_seq ?_
    refine xc_region ?_
    refine xo_rd (rd_move rfl) rfl ?_
    refine xo_ef rfl (ef_call rfl (XF.mono (XF.mid [_] (xr_long _ (by assumption) (fun z hz => by simp [hs z hz]))) ?_))
    rintro v L' ⟨rfl, o2, ho2, rfl⟩
    refine xo_mid [_] ?_
    refine xo_rd (rd_build rfl rfl rfl) rfl ?_
    refine xo_ef rfl (ef_alloc fun r3 => ?_)
    refine xo_ef rfl (ef_storeB [] _ rfl rfl (by first | rfl | assumption) rfl rfl rfl ?_)
    refine xo_nil ?_
    refine xq_seq ?_
    refine xc_seq ?_
    refine xc_region ?_
    refine xo_rd (rd_assign rfl) rfl ?_
    refine xo_nil ?_
    refine xq_seq ?_
    refine xc_seq ?_
    refine xc_seq ?_
    refine xc_region ?_
    refine xo_rd (rd_move rfl) rfl ?_
    refine xo_ef rfl (ef_call rfl (XF.mono (XF.mid [_, _] (xr_byte _ (by assumption) (fun z hz => by simp [hs z hz]))) ?_))
    rintro v L' ⟨rfl, o3, ho3, rfl⟩
    refine xo_mid [_, _] ?_
    refine xo_rd (rd_assign rfl) rfl ?_
    refine xo_nil ?_
    refine xq_seq ?_
    refine xc_block ?_
  have hm0 : ((r.take 4).2.take 1).2.m ≤ (r.take 4).2.l.length + 1 := by
    refine Nat.le_trans (Rd.m_take _ 1) ?_
    unfold Rd.m; split <;> omega
  generalize (r.take 4).2.l.length + 1 = K0 at *
  generalize hS0 : ((r.take 4).2.take 1).1.getD 0 0 = S0 at *
  generalize hR0 : ((r.take 4).2.take 1).2 = R0 at *
  generalize vl (r.take 4).1 = ss at *
  refine xc_loopI (ι := ItS) (fun z => RdB W L0 z.r z.o ∧ By z.so ∧ z.r.m ≤ z.K ∧ Rd.items K0 R0 S0 false [] = Rd.items z.K z.r z.so z.nd z.nm) (fun z => z.r.m) (fun z => (r3, .cells #[.int .u32 ss, .string (strOfNums z.nm)] 90 (0, 0)) :: (r2, .cells #[.int .u32 0, .string ⟨#[]⟩] 90 (0, 0)) :: (b, z.o) :: L) (fun z => [(0, .pointer (some ⟨b, 0, none⟩)), (2, .pointer (some ⟨r2, 0, none⟩)), (3, .pointer (some ⟨r3, 0, none⟩)), (4, .bool z.nd), (5, .int .u8 z.so)]) ⟨K0, R0, S0, false, [], o3⟩ ⟨ho3, by rw [← hS0]; exact Rd.take_get _ _ ho2.ok, hm0, rfl⟩ rfl (by repeat (first | exact keep_nil | refine keep_cons rfl ?_)) ?_
  rintro ⟨K, r1, so, nd, nm, o4⟩ ⟨hB, hso, hm, heq⟩
  dsimp only at hB hso hm heq ⊢
  by_cases hgo : so ≠ 0 ∧ r1.bad = false
  · obtain ⟨h0, hbad⟩ := hgo
    obtain ⟨K', rfl⟩ : ∃ K', K = K' + 1 := ⟨K - 1, by unfold Rd.m at hm; rw [hbad, if_neg (by decide)] at hm; omega⟩
    have e1 : Rd.items (K' + 1) r1 so nd nm = Rd.items K' (r1.text.2.take 1).2 ((r1.text.2.take 1).1.getD 0 0) (nd || decide (so = 1)) (if so = 1 ∧ nd = false then r1.text.1 else nm) := by
      rw [Rd.items, if_pos ⟨h0, hbad⟩]
    rw [e1] at heq
    have hm2 := r1.m_text hbad
    have hst2 := hB
    obtain ⟨p4, c4, rfl, hc4, hr4, hok4⟩ := hB
    have hld : ∀ a d R, Cl W (a :: d :: (b, .cells (rdC p4 c4 r1).toArray 130 (0, 0)) :: R) b (0 + 2) (.bool false) := fun a d R => by rw [← hbad]; exact Cl.o2 rfl
    have hby2 := Rd.take_get r1.text.2 _ (Rd.text_ok hok4)
    by_cases h1 : so = 1
    · cases nd with
      | false =>
        rw [if_pos ⟨h1, rfl⟩, decide_eq_true h1, Bool.false_or] at heq
        focus
          refine xc_seq ?_
          refine xc_seq ?_
          refine xc_region ?_
          refine xo_rd (rd_move rfl) rfl ?_
          refine xo_rd (rd_neq rfl rfl) rfl ?_
          refine xo_rd (rd_move rfl) rfl ?_
          refine xo_ndec 14 rfl (fun hq1 => ?_) (fun hq1 => (by exfalso; omega))
          refine xo_grd rfl rfl (rd_move rfl) rfl ?_
          refine xo_grd rfl rfl (rd_nilCheck rfl) rfl ?_
          refine xo_grd rfl rfl (rd_fieldAddr rfl) rfl ?_
          refine xo_grd rfl rfl (rd_load1 rfl (hld _ _ _)) rfl ?_
          refine xo_grd rfl rfl (rd_not rfl) rfl ?_
          refine xo_rd (rd_pickt rfl rfl) rfl ?_
          refine xo_nil ?_
          refine xq_seq ?_
          refine xc_condt rfl ?_
          refine xc_skip ?_
          refine xq_seq ?_
          refine xc_seq ?_
          refine xc_block ?_
          refine xc_seq ?_
          refine xc_region ?_
          refine xo_rd (rd_move rfl) rfl ?_
          refine xo_ef rfl (ef_call rfl (XF.mono (XF.mid [_, _] (xr_text _ (by assumption) (fun z hz => by simp [hs z hz]))) ?_))
          rintro v L' ⟨rfl, o5, ho5, rfl⟩
          refine xo_mid [_, _] ?_
          refine xo_rd (rd_assign rfl) rfl ?_
          refine xo_nil ?_
          refine xq_seq ?_
          refine xc_seq ?_
          refine xc_region ?_
          refine xo_rd (rd_move rfl) rfl ?_
          refine xo_rd (rd_eql rfl rfl) rfl ?_
          refine xo_rd (rd_move rfl) rfl ?_
          refine xo_dec 27 rfl (fun hq2 => ?_) (fun hq2 => (by exfalso; omega))
          refine xo_grd rfl rfl (rd_move rfl) rfl ?_
          refine xo_grd rfl rfl (rd_not rfl) rfl ?_
          refine xo_rd (rd_pickt rfl rfl) rfl ?_
          refine xo_nil ?_
          refine xq_seq ?_
          refine xc_condt rfl ?_
          refine xc_region ?_
          refine xo_rd (rd_move rfl) rfl ?_
          refine xo_rd (rd_fieldAddr rfl) rfl ?_
          refine xo_ef rfl (ef_store1 [] _ rfl rfl (by first | rfl | assumption) rfl rfl rfl ?_)
          refine xo_rd (rd_assign rfl) rfl ?_
          refine xo_nil ?_
          refine xq_block ?_
          refine xq_seq ?_
          refine xc_region ?_
          refine xo_rd (rd_move rfl) rfl ?_
          refine xo_ef rfl (ef_call rfl (XF.mono (XF.mid [_, _] (xr_byte _ (by assumption) (fun z hz => by simp [hs z hz]))) ?_))
          rintro v L' ⟨rfl, o6, ho6, rfl⟩
          refine xo_mid [_, _] ?_
          refine xo_rd (rd_assign rfl) rfl ?_
          refine xo_nil ?_
        exact (xq_roundI (⟨K', (r1.text.2.take 1).2, (r1.text.2.take 1).1.getD 0 0, true, r1.text.1, o6⟩ : ItS) ⟨by assumption, hby2, by dsimp only; omega, heq⟩ hm2 rfl (by repeat (first | exact keep_nil | refine keep_cons rfl ?_)))
      | true =>
        rw [if_neg (fun h => by cases h.2), Bool.true_or] at heq
        focus
          refine xc_seq ?_
          refine xc_seq ?_
          refine xc_region ?_
          refine xo_rd (rd_move rfl) rfl ?_
          refine xo_rd (rd_neq rfl rfl) rfl ?_
          refine xo_rd (rd_move rfl) rfl ?_
          refine xo_ndec 14 rfl (fun hq1 => ?_) (fun hq1 => (by exfalso; omega))
          refine xo_grd rfl rfl (rd_move rfl) rfl ?_
          refine xo_grd rfl rfl (rd_nilCheck rfl) rfl ?_
          refine xo_grd rfl rfl (rd_fieldAddr rfl) rfl ?_
          refine xo_grd rfl rfl (rd_load1 rfl (hld _ _ _)) rfl ?_
          refine xo_grd rfl rfl (rd_not rfl) rfl ?_
          refine xo_rd (rd_pickt rfl rfl) rfl ?_
          refine xo_nil ?_
          refine xq_seq ?_
          refine xc_condt rfl ?_
          refine xc_skip ?_
          refine xq_seq ?_
          refine xc_seq ?_
          refine xc_block ?_
          refine xc_seq ?_
          refine xc_region ?_
          refine xo_rd (rd_move rfl) rfl ?_
          refine xo_ef rfl (ef_call rfl (XF.mono (XF.mid [_, _] (xr_text _ (by assumption) (fun z hz => by simp [hs z hz]))) ?_))
          rintro v L' ⟨rfl, o5, ho5, rfl⟩
          refine xo_mid [_, _] ?_
          refine xo_rd (rd_assign rfl) rfl ?_
          refine xo_nil ?_
          refine xq_seq ?_
          refine xc_seq ?_
          refine xc_region ?_
          refine xo_rd (rd_move rfl) rfl ?_
          refine xo_rd (rd_eql rfl rfl) rfl ?_
          refine xo_rd (rd_move rfl) rfl ?_
          refine xo_dec 27 rfl (fun hq2 => ?_) (fun hq2 => (by exfalso; omega))
          refine xo_grd rfl rfl (rd_move rfl) rfl ?_
          refine xo_grd rfl rfl (rd_not rfl) rfl ?_
          refine xo_rd (rd_pickt rfl rfl) rfl ?_
          refine xo_nil ?_
          refine xq_seq ?_
          refine xc_condf rfl ?_
          refine xc_skip ?_
          refine xq_block ?_
          refine xq_seq ?_
          refine xc_region ?_
          refine xo_rd (rd_move rfl) rfl ?_
          refine xo_ef rfl (ef_call rfl (XF.mono (XF.mid [_, _] (xr_byte _ (by assumption) (fun z hz => by simp [hs z hz]))) ?_))
          rintro v L' ⟨rfl, o6, ho6, rfl⟩
          refine xo_mid [_, _] ?_
          refine xo_rd (rd_assign rfl) rfl ?_
          refine xo_nil ?_
        exact (xq_roundI (⟨K', (r1.text.2.take 1).2, (r1.text.2.take 1).1.getD 0 0, true, nm, o6⟩ : ItS) ⟨by assumption, hby2, by dsimp only; omega, heq⟩ hm2 rfl (by repeat (first | exact keep_nil | refine keep_cons rfl ?_)))
    · rw [if_neg (fun h => h1 h.1), decide_eq_false h1, Bool.or_false] at heq
      focus
        refine xc_seq ?_
        refine xc_seq ?_
        refine xc_region ?_
        refine xo_rd (rd_move rfl) rfl ?_
        refine xo_rd (rd_neq rfl rfl) rfl ?_
        refine xo_rd (rd_move rfl) rfl ?_
        refine xo_ndec 14 rfl (fun hq1 => ?_) (fun hq1 => (by exfalso; omega))
        refine xo_grd rfl rfl (rd_move rfl) rfl ?_
        refine xo_grd rfl rfl (rd_nilCheck rfl) rfl ?_
        refine xo_grd rfl rfl (rd_fieldAddr rfl) rfl ?_
        refine xo_grd rfl rfl (rd_load1 rfl (hld _ _ _)) rfl ?_
        refine xo_grd rfl rfl (rd_not rfl) rfl ?_
        refine xo_rd (rd_pickt rfl rfl) rfl ?_
        refine xo_nil ?_
        refine xq_seq ?_
        refine xc_condt rfl ?_
        refine xc_skip ?_
        refine xq_seq ?_
        refine xc_seq ?_
        refine xc_block ?_
        refine xc_seq ?_
        refine xc_region ?_
        refine xo_rd (rd_move rfl) rfl ?_
        refine xo_ef rfl (ef_call rfl (XF.mono (XF.mid [_, _] (xr_text _ (by assumption) (fun z hz => by simp [hs z hz]))) ?_))
        rintro v L' ⟨rfl, o5, ho5, rfl⟩
        refine xo_mid [_, _] ?_
        refine xo_rd (rd_assign rfl) rfl ?_
        refine xo_nil ?_
        refine xq_seq ?_
        refine xc_seq ?_
        refine xc_region ?_
        refine xo_rd (rd_move rfl) rfl ?_
        refine xo_rd (rd_eql rfl rfl) rfl ?_
        refine xo_rd (rd_move rfl) rfl ?_
        refine xo_dec 27 rfl (fun hq2 => (by exfalso; omega)) (fun hq2 => ?_)
        refine xo_gskip rfl rfl rfl rfl ?_
        refine xo_gskip rfl rfl rfl rfl ?_
        refine xo_rd (rd_pickf rfl rfl) rfl ?_
        refine xo_nil ?_
        refine xq_seq ?_
        refine xc_condf rfl ?_
        refine xc_skip ?_
        refine xq_block ?_
        refine xq_seq ?_
        refine xc_region ?_
        refine xo_rd (rd_move rfl) rfl ?_
        refine xo_ef rfl (ef_call rfl (XF.mono (XF.mid [_, _] (xr_byte _ (by assumption) (fun z hz => by simp [hs z hz]))) ?_))
        rintro v L' ⟨rfl, o6, ho6, rfl⟩
        refine xo_mid [_, _] ?_
        refine xo_rd (rd_assign rfl) rfl ?_
        refine xo_nil ?_
      exact (xq_roundI (⟨K', (r1.text.2.take 1).2, (r1.text.2.take 1).1.getD 0 0, nd, nm, o6⟩ : ItS) ⟨by assumption, hby2, by dsimp only; omega, heq⟩ hm2 rfl (by repeat (first | exact keep_nil | refine keep_cons rfl ?_)))
  · have e1 : Rd.items K r1 so nd nm = (nm, r1) := by
      cases K with
      | zero => rfl
      | succ K => rw [Rd.items, if_neg hgo]
    rw [e1] at heq
    rw [heq]
    dsimp only
    have hst2 := hB
    obtain ⟨p4, c4, rfl, hc4, hr4, hok4⟩ := hB
    have hld : ∀ a d R, Cl W (a :: d :: (b, .cells (rdC p4 c4 r1).toArray 130 (0, 0)) :: R) b (0 + 2) (.bool r1.bad) := fun a d R => Cl.o2 rfl
    by_cases h0 : so = 0
    · focus
        refine xc_seq ?_
        refine xc_seq ?_
        refine xc_region ?_
        refine xo_rd (rd_move rfl) rfl ?_
        refine xo_rd (rd_neq rfl rfl) rfl ?_
        refine xo_rd (rd_move rfl) rfl ?_
        refine xo_ndec 14 rfl (fun hq1 => (by exfalso; omega)) (fun hq1 => ?_)
        refine xo_gskip rfl rfl rfl rfl ?_
        refine xo_gskip rfl rfl rfl rfl ?_
        refine xo_gskip rfl rfl rfl rfl ?_
        refine xo_gskip rfl rfl rfl rfl ?_
        refine xo_gskip rfl rfl rfl rfl ?_
        refine xo_rd (rd_pickf rfl rfl) rfl ?_
        refine xo_nil ?_
        refine xq_seq ?_
        refine xc_condf rfl ?_
        refine xc_exit ?_
        refine xq_then_exit ?_
        refine xq_then_exit ?_
        refine xq_block_hit ?_
        refine xq_seq ?_
        refine xc_seq ?_
        refine xc_region ?_
        refine xo_rd (rd_move rfl) rfl ?_
        refine xo_ef rfl (ef_call rfl (XF.mono (XF.mid [_, _] (xr_fill _ (by assumption) (fun z hz => by simp [hs z hz]))) ?_))
        rintro v L' ⟨rfl, o5, ho5, rfl⟩
        refine xo_mid [_, _] ?_
        refine xo_nil ?_
        refine xq_seq ?_
        refine xc_seq ?_
        refine xc_region ?_
        refine xo_rd (rd_loadB rfl Kn.o0 (by rfl)) rfl ?_
        refine xo_ef rfl (ef_storeB [_] _ rfl rfl (by first | rfl | assumption) rfl rfl rfl ?_)
        refine xo_nil ?_
        refine xq_seq ?_
        refine xc_ret ?_
      exact xq_retB (.inl rfl) Try.results58 rfl Kn.o1 rfl (.cons _ (.cons _ (List.Sublist.refl _))) ⟨rfl, o5, ho5, rfl⟩
    · have hbad : r1.bad = true := by
        cases hb : r1.bad
        · exact absurd ⟨h0, hb⟩ hgo
        · rfl
      rw [hbad] at hld
      focus
        refine xc_seq ?_
        refine xc_seq ?_
        refine xc_region ?_
        refine xo_rd (rd_move rfl) rfl ?_
        refine xo_rd (rd_neq rfl rfl) rfl ?_
        refine xo_rd (rd_move rfl) rfl ?_
        refine xo_ndec 14 rfl (fun hq1 => ?_) (fun hq1 => (by exfalso; omega))
        refine xo_grd rfl rfl (rd_move rfl) rfl ?_
        refine xo_grd rfl rfl (rd_nilCheck rfl) rfl ?_
        refine xo_grd rfl rfl (rd_fieldAddr rfl) rfl ?_
        refine xo_grd rfl rfl (rd_load1 rfl (hld _ _ _)) rfl ?_
        refine xo_grd rfl rfl (rd_not rfl) rfl ?_
        refine xo_rd (rd_pickt rfl rfl) rfl ?_
        refine xo_nil ?_
        refine xq_seq ?_
        refine xc_condf rfl ?_
        refine xc_exit ?_
        refine xq_then_exit ?_
        refine xq_then_exit ?_
        refine xq_block_hit ?_
        refine xq_seq ?_
        refine xc_seq ?_
        refine xc_region ?_
        refine xo_rd (rd_move rfl) rfl ?_
        refine xo_ef rfl (ef_call rfl (XF.mono (XF.mid [_, _] (xr_fill _ (by assumption) (fun z hz => by simp [hs z hz]))) ?_))
        rintro v L' ⟨rfl, o5, ho5, rfl⟩
        refine xo_mid [_, _] ?_
        refine xo_nil ?_
        refine xq_seq ?_
        refine xc_seq ?_
        refine xc_region ?_
        refine xo_rd (rd_loadB rfl Kn.o0 (by rfl)) rfl ?_
        refine xo_ef rfl (ef_storeB [_] _ rfl rfl (by first | rfl | assumption) rfl rfl rfl ?_)
        refine xo_nil ?_
        refine xq_seq ?_
        refine xc_ret ?_
      exact xq_retB (.inl rfl) Try.results58 rfl Kn.o1 rfl (.cons _ (.cons _ (List.Sublist.refl _))) ⟨rfl, o5, ho5, rfl⟩
end Go.Proofs.Ytogilblilljpmaa.X
